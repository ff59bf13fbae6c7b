import PyProof.Rows.All
import Wide.All
import OpenK.AllK
import Wide.FinOn
import HandS.ForExc
import HandS.Text
import KE.KeyNested
import KE.KDictKeyed
import HandS.Dict
import HandS.Comp
import HandS.Deep
import HandS.Lambda
import HandS.ExcInit
import HandS.TupMul
import HandS.TupAny
import HandS.Style
import HandS.Wide
import HandS.List
import HandS.IsInst
import KE.DataFind
import HandS.CallSlots
import HandS.WordsExc
import HandS.Ends
import HandS.EndBits
import HandS.ExcIs
import HandS.ExcValue
import HandS.FStr
import KE.KExcSuper
import HandS.ExcField
import KE.SortData
import HandS.TupSets
import PyProof.Rows.SetFrom
import PyProof.WalksMore
import HandS.SetFor
import HandS.Flow
import HandS.Iter
import HandS.Zip
import HandS.Strs
import HandS.Star
import HandS.EndTab
import HandS.Head0
import HandS.Head1
import HandS.Head2
import HandS.HeadEnd
import HandS.HeadHook1
import HandS.HeadHook2
import PySem.Challenge.RW_flushtold_k15_errors
set_option Elab.async false
section
set_option Elab.async false
set_option linter.all false
set_option maxRecDepth 100000
/-! FT.Sem: data, store, own syntax and its evaluator. -/
namespace FT
open PySem

inductive D where
  | non
  | bl (b : Bool)
  | int (i : Int)
  | str (s : Str)
  | tup (xs : List D)
  | lst (xs : List D)
  | dct (kvs : List (D × D))
  | obj (id : Nat)
  | ins (c : Str) (fs : List (Str × D))
  | exc (c : Str) (args : List D)
  | fn (f : Str)
  deriving Inhabited

/-- a mutable object -/
inductive MO where
  | dead
  | lst (xs : List D)
  | dct (kvs : List (D × D))
  | ins (c : Str) (fs : List (Str × D))
  deriving Inhabited

abbrev Store := List MO
abbrev Env := List (Option D)

inductive R (α : Type) where
  | ok (a : α) (S : Store)
  | ex (d : D) (S : Store)
  | bad

namespace R
def bind {α β : Type} (r : R α) (f : α → Store → R β) : R β :=
  match r with
  | .ok a S => f a S
  | .ex d S => .ex d S
  | .bad => .bad
@[simp] theorem bind_ok {α β : Type} (a : α) (S : Store) (f : α → Store → R β) : (R.ok a S).bind f = f a S := rfl
@[simp] theorem bind_ex {α β : Type} (d : D) (S : Store) (f : α → Store → R β) : (R.ex d S : R α).bind f = .ex d S := rfl
@[simp] theorem bind_bad {α β : Type} (f : α → Store → R β) : (R.bad : R α).bind f = .bad := rfl
/-- an answer, or stuck -/
def ofO {α : Type} (o : Option α) (S : Store) : R α :=
  match o with
  | some a => .ok a S
  | none => .bad
@[simp] theorem ofO_some {α : Type} (a : α) (S : Store) : ofO (some a) S = .ok a S := rfl
@[simp] theorem ofO_none {α : Type} (S : Store) : ofO (none : Option α) S = .bad := rfl
end R

def sz (n : Nat) : Bool := decide (n ≤ sizeLine)

/-! ### live objects read as trees -/
mutual
def resW (f : Nat → D) : D → D
  | .non => .non
  | .bl b => .bl b
  | .int i => .int i
  | .str s => .str s
  | .tup xs => .tup (resWs f xs)
  | .lst xs => .lst (resWs f xs)
  | .dct kvs => .dct (resWk f kvs)
  | .obj id => f id
  | .ins c fs => .ins c fs
  | .exc c a => .exc c a
  | .fn g => .fn g
def resWs (f : Nat → D) : List D → List D
  | [] => []
  | d :: ds => resW f d :: resWs f ds
def resWk (f : Nat → D) : List (D × D) → List (D × D)
  | [] => []
  | (k, v) :: ds => (resW f k, resW f v) :: resWk f ds
end
def resN (S : Store) : Nat → D → D
  | 0 => resW .obj
  | n + 1 => resW fun id => match S[id]? with
    | some (.lst xs) => .lst (xs.map (resN S n))
    | _ => .obj id
def resD (S : Store) (d : D) : D := resN S 3 d

/-! ### as PyData -/
mutual
def pyT : D → PyData
  | .bl b => .bool b
  | .int i => .int i
  | .str s => .str s
  | .tup xs => .tuple (pyTs xs)
  | .lst xs => .list (pyTs xs)
  | .dct kvs => .dict (pyTk kvs)
  | _ => .none
def pyTs : List D → List PyData
  | [] => []
  | d :: ds => pyT d :: pyTs ds
def pyTk : List (D × D) → List (PyData × PyData)
  | [] => []
  | (k, v) :: ds => (pyT k, pyT v) :: pyTk ds
end
mutual
/-- data all through: no object, no function -/
def isT : D → Bool
  | .non | .bl _ | .int _ | .str _ => true
  | .tup xs => isTs xs
  | .lst xs => isTs xs
  | .dct kvs => kvs.isEmpty
  | _ => false
def isTs : List D → Bool
  | [] => true
  | d :: ds => isT d && isTs ds
end
mutual
/-- what may be compared: texts well-formed, no dicts -/
def okT : D → Bool
  | .non | .bl _ | .int _ => true
  | .str s => PyData.strOk s
  | .tup xs => okTs xs
  | .lst xs => okTs xs
  | _ => false
def okTs : List D → Bool
  | [] => true
  | d :: ds => okT d && okTs ds
end
mutual
def hasD : D → Bool
  | .tup xs => hasDs xs
  | .lst xs => hasDs xs
  | .dct _ => true
  | _ => false
def hasDs : List D → Bool
  | [] => false
  | d :: ds => hasD d || hasDs ds
end
mutual
def hasL : D → Bool
  | .tup xs => hasLs xs
  | .lst _ => true
  | .dct kvs => hasLk kvs
  | _ => false
def hasLs : List D → Bool
  | [] => false
  | d :: ds => hasL d || hasLs ds
def hasLk : List (D × D) → Bool
  | [] => false
  | (k, v) :: ds => hasL k || hasL v || hasLk ds
end
mutual
def depT : D → Nat
  | .tup xs => depTs xs + 1
  | .lst xs => depTs xs + 1
  | .dct kvs => depTk kvs + 1
  | _ => 0
def depTs : List D → Nat
  | [] => 0
  | d :: ds => max (depT d) (depTs ds)
def depTk : List (D × D) → Nat
  | [] => 0
  | (k, v) :: ds => max (max (depT k) (depT v)) (depTk ds)
end
mutual
def eqT : D → D → Bool
  | .non, .non => true
  | .bl a, .bl b => a == b
  | .bl a, .int j => (if a then 1 else 0) == j
  | .int i, .bl b => i == (if b then 1 else 0)
  | .int i, .int j => i == j
  | .str x, .str y => x == y
  | .lst xs, .lst ys => eqTs xs ys
  | .tup xs, .tup ys => eqTs xs ys
  | _, _ => false
def eqTs : List D → List D → Bool
  | [], [] => true
  | x :: xs, y :: ys => eqT x y && eqTs xs ys
  | _, _ => false
end

/-! ### views -/
/-- a list or a tuple's items -/
def seqD (S : Store) : D → Option (List D)
  | .tup xs => some xs
  | .lst xs => some xs
  | .obj id => match S[id]? with
    | some (.lst xs) => some xs
    | _ => none
  | _ => none
def lstD (S : Store) : D → Option (List D)
  | .lst xs => some xs
  | .obj id => match S[id]? with
    | some (.lst xs) => some xs
    | _ => none
  | _ => none
def dctD (S : Store) : D → Option (List (D × D))
  | .dct kvs => some kvs
  | .obj id => match S[id]? with
    | some (.dct kvs) => some kvs
    | _ => none
  | _ => none
/-- class and fields of an instance -/
def insD (S : Store) : D → Option (Str × List (Str × D))
  | .ins c fs => some (c, fs)
  | .obj id => match S[id]? with
    | some (.ins c fs) => some (c, fs)
    | _ => none
  | _ => none

/-- truth -/
def truD (S : Store) : D → Option Bool
  | .non => some false
  | .bl b => some b
  | .int i => some (i != 0)
  | .str s => if sz s.length then some (s.length != 0) else none
  | .tup xs => some (!xs.isEmpty)
  | .lst xs => some (!xs.isEmpty)
  | .obj id => match S[id]? with
    | some (.lst xs) => some (!xs.isEmpty)
    | _ => none
  | _ => none

/-! ### the store -/
def isStrD : D → Bool
  | .str _ => true
  | _ => false
def alloc (o : MO) (S : Store) : R D := .ok (.obj S.length) (S ++ [o])
/-- a new list, live or frozen -/
def newL (live : Bool) (xs : List D) (S : Store) : R D :=
  if sz xs.length then (if live then alloc (.lst xs) S else .ok (.lst xs) S) else .bad
def newDct (live : Bool) (kvs : List (D × D)) (S : Store) : R D :=
  if live then alloc (.dct kvs) S else .ok (.dct kvs) S
/-- a display: keys that are texts, each other than the others -/
def dispD (live : Bool) (ks : List Str) (vs : List D) (S : Store) : R D :=
  if decide ks.Nodup && ks.length == vs.length && decide (ks.length ≤ 15) then newDct live ((ks.map .str).zip vs) S else .bad
/-- a result that is a list becomes live -/
def liven (live : Bool) (d : D) (S : Store) : R D :=
  if live then (match d with
    | .lst xs => alloc (.lst xs) S
    | _ => .bad) else .ok d S

/-! ### == and in -/
def fitT (d : D) : Bool := okT d && decide (depT d ≤ 64)
def eqD (S : Store) : D → D → Option Bool
  | .non, .non => some true
  | .bl a, .bl b => some (a == b)
  | .int a, .int b => some (a == b)
  | .str a, .str b => some (a == b)
  | .tup xs, .tup [] => some xs.isEmpty
  | x, y => if fitT (resD S x) && fitT (resD S y) then some (eqT (resD S x) (resD S y)) else none
def fitAll (S : Store) (ys : List D) : Bool := ys.all fun y => fitT (resD S y)
/-- x in ys, by == -/
def inL (S : Store) (x : D) (ys : List D) : Option Bool := if fitT (resD S x) && fitAll S ys then some (ys.any fun y => eqT (resD S y) (resD S x)) else none
/-- how often, at what place first -/
def countL (S : Store) (x : D) (ys : List D) : Option Nat := if fitT (resD S x) && fitAll S ys then some (ys.countP fun y => eqT (resD S y) (resD S x)) else none
def flatD : D → Bool
  | .non | .bl _ | .int _ | .str _ => true
  | _ => false
def indexL (x : D) (ys : List D) : Option Nat := if flatD x && ys.all flatD then ys.findIdx? fun y => eqT y x else none

/-! ### order -/
mutual
def ltT : D → D → Bool
  | .bl a, .bl b => !a && b
  | .int a, .int b => decide (a < b)
  | .str a, .str b => decide (a.cps.toList < b.cps.toList)
  | .tup xs, .tup ys => ltTs xs ys
  | .lst xs, .lst ys => ltTs xs ys
  | _, _ => false
def ltTs : List D → List D → Bool
  | [], [] => false
  | [], _ :: _ => true
  | _ :: _, [] => false
  | x :: xs, y :: ys => if eqT x y then ltTs xs ys else ltT x y
end
mutual
/-- two data that may be ordered -/
def ordT : D → D → Bool
  | .bl _, .bl _ => true
  | .int _, .int _ => true
  | .str x, .str y => PyData.strOk x && PyData.strOk y
  | .tup xs, .tup ys => ordTs xs ys
  | .lst xs, .lst ys => ordTs xs ys
  | _, _ => false
def ordTs : List D → List D → Bool
  | x :: xs, y :: ys => ordT x y && ordTs xs ys
  | _, _ => true
end
def insT (x : D) : List D → List D
  | [] => [x]
  | y :: ys => if ltT y x then y :: insT x ys else x :: y :: ys
def sortT : List D → List D
  | [] => []
  | x :: xs => insT x (sortT xs)
def dedupT : List D → List D
  | [] => []
  | x :: xs => if xs.any (eqT x) then dedupT xs else x :: dedupT xs
/-- what may be sorted: all tuples with an item, or none a tuple -/
def sortB (xs : List D) : Bool := (xs.all fun x => match x with
  | .tup (_ :: _) => true
  | _ => false) || xs.all fun x => match x with
  | .tup _ | .non => false
  | _ => true

mutual
/-- what a set may hold -/
def hshT : D → Bool
  | .non | .bl _ | .int _ | .str _ => true
  | .tup xs => hshTs xs
  | _ => false
def hshTs : List D → Bool
  | [] => true
  | d :: ds => hshT d && hshTs ds
end
def setB (xs : List D) : Bool := (xs.all fun x => hshT x && decide (depT x ≤ 8)) && decide (xs.length < 64)
def ordAll (xs : List D) : Bool := xs.all fitT && (xs.all fun x => xs.all fun y => ordT x y) && sortB xs

/-! ### dicts -/
def isTupD : D → Bool
  | .tup _ => true
  | _ => false
/-- a key that is a tuple -/
def keyB (k : D) : Bool := isTupD k && hshT k && decide (depT k ≤ 8)
/-- may k be looked for: all keys texts, or all tuples -/
def keyFor (kvs : List (D × D)) (k : D) : Bool := (isStrD k && kvs.all fun p => isStrD p.1) || (keyB k && kvs.all fun p => isTupD p.1)
def findK (kvs : List (D × D)) (k : D) : Option D := (kvs.find? fun p => eqT p.1 k).map (·.2)
def putD (kvs : List (D × D)) (k v : D) : List (D × D) := if kvs.any fun p => eqT p.1 k then kvs.map fun p => if eqT p.1 k then (p.1, v) else p else kvs ++ [(k, v)]

/-! ### texts -/
/-- the text of repr -/
def reprD (S : Store) (d : D) : Option Str :=
  let t := resD S d
  if isT t && !(hasD t && hasL t) && (pyT t).showable && decide (depT t ≤ 64) && sz (pyT t).shown.length then some (pyT t).shown else none

def cutL {α : Type} (xs : List α) (lo hi : Option Int) : List α :=
  (xs.drop (HT.sIx xs.length 0 lo)).take (HT.sIx xs.length xs.length hi - HT.sIx xs.length 0 lo)
def mapO {α β : Type} (f : α → Option β) : List α → Option (List β)
  | [] => some []
  | a :: r => match f a, mapO f r with
    | some b, some s => some (b :: s)
    | _, _ => none
def mapR {α β : Type} (f : α → Store → R β) : List α → Store → R (List β)
  | [], S => .ok [] S
  | a :: r, S => (f a S).bind fun b S1 => (mapR f r S1).bind fun bs S2 => .ok (b :: bs) S2

/-! ### operators -/
def mulOk (i j : Int) : Bool := decide (i.natAbs.log2 + j.natAbs.log2 < 1000000)
def mulS (a : Str) (k : Int) : Str := ⟨(List.replicate k.toNat a.cps).foldl (· ++ ·) #[]⟩
def binD (op : Operator) (x y : D) (S : Store) : Option D :=
  match op, x, y with
  | .Add, .int i, .int j => some (.int (i + j))
  | .Sub, .int i, .int j => some (.int (i - j))
  | .Mult, .int i, .int j => if mulOk i j then some (.int (i * j)) else none
  | .Mod, .int i, .int j => if 0 < j then some (.int (i % j)) else none
  | .FloorDiv, .int i, .int j => if 0 < j ∧ j.natAbs.log2 < 9000 then some (.int (i / j)) else none
  | .Pow, .int i, .int j => if 0 ≤ j ∧ j ≤ 1000000 ∧ i.natAbs < 2 ^ 64 then some (.int (i ^ j.toNat)) else none
  | .Add, .str a, .str b => if sz (a.length + b.length) then some (.str (a ++ b)) else none
  | .Add, .tup a, .tup b => if sz (a.length + b.length) then some (.tup (a ++ b)) else none
  | .Mult, .str a, .int k => if decide (2 ≤ k ∧ k ≤ 1000 ∧ 1 ≤ a.length ∧ a.length ≤ 1000) && sz (mulS a k).length then some (.str (mulS a k)) else none
  | .Mult, .tup a, .int k => if !a.isEmpty && decide (2 ≤ k ∧ k ≤ 1000 ∧ a.length ≤ 1000) then some (.tup (List.replicate k.toNat a).flatten) else none
  | .Add, x, y => match lstD S x, lstD S y with
    | some a, some b => if sz (a.length + b.length) then some (.lst (a ++ b)) else none
    | _, _ => none
  | _, _, _ => none

/-- [..] * y -/
def repD (live : Bool) (xs : List D) (y : D) (S : Store) : R D := match y with
  | .int k => if -(2 ^ 63) ≤ k ∧ k < 2 ^ 63 ∧ xs.length * k.toNat ≤ sizeLine then newL live (List.replicate k.toNat xs).flatten S else .bad
  | _ => .bad
def cmpD (op : CmpOp) (x y : D) (S : Store) : Option Bool :=
  match op, x, y with
  | .Eq, x, y => eqD S x y
  | .NotEq, x, y => (eqD S x y).map not
  | .Lt, .int i, .int j => some (decide (i < j))
  | .LtE, .int i, .int j => some (decide (i ≤ j))
  | .Gt, .int i, .int j => some (decide (j < i))
  | .GtE, .int i, .int j => some (decide (j ≤ i))
  | .Is, .non, .non => some true
  | .Is, _, .non => some false
  | .IsNot, .non, .non => some false
  | .IsNot, _, .non => some true
  | .Is, .bl a, .bl b => some (a == b)
  | .IsNot, .bl a, .bl b => some (!(a == b))
  | .In, .str a, .str b => some (!(Builtin.Str.occurrences b a 0 b.length 1).isEmpty)
  | .NotIn, .str a, .str b => some (!(!(Builtin.Str.occurrences b a 0 b.length 1).isEmpty))
  | .In, x, y => match seqD S y with
    | some ys => inL S x ys
    | none => match dctD S y with
      | some kvs => if keyFor kvs x then some (findK kvs x).isSome else none
      | none => none
  | .NotIn, x, y => match seqD S y with
    | some ys => (inL S x ys).map not
    | none => match dctD S y with
      | some kvs => if keyFor kvs x then some (!(findK kvs x).isSome) else none
      | none => none
  | _, _, _ => none

/-- a[i] -/
def subD (S : Store) (a i : D) : Option D :=
  match a, i with
  | .str s, .int k => if sz s.length then (L2.atI s.cps.toList k).map fun c => .str ⟨#[c]⟩ else none
  | a, .int k => match seqD S a with
    | some xs => L2.atI xs k
    | none => none
  | a, k => match dctD S a with
    | some kvs => if keyFor kvs k then findK kvs k else none
    | none => none
/-- a[lo:hi], frozen -/
def sliceD (S : Store) (a : D) (lo hi : Option Int) : Option D :=
  match a with
  | .str s => if sz s.length then some (.str (L2.cutS s lo hi)) else none
  | .tup xs => some (.tup (cutL xs lo hi))
  | a => (lstD S a).map fun xs => .lst (cutL xs lo hi)
/-- a[::-1] -/
def revD (S : Store) (a : D) : Option D :=
  match a with
  | .tup xs => some (.tup xs.reverse)
  | a => (lstD S a).map fun xs => .lst xs.reverse


/-! ### syntax -/
inductive K where
  | non | bl (b : Bool) | int (i : Int) | str (s : Str)
  deriving DecidableEq
def K.d : K → D
  | .non => .non
  | .bl b => .bl b
  | .int i => .int i
  | .str s => .str s
/-- the built-in functions and classes that are called -/
inductive B where
  | len | repr | all | any | int | str | tuple | list | sorted | sortedSet | lenSet | min2 | min1 | max1 | dict
  | isi (t : Nat)
  deriving DecidableEq
/-- built-in methods -/
inductive M where
  | count | index | append | extend | pop | popAt | split | join | replace | get | get1 | values | items | update | popKey
  deriving DecidableEq

mutual
inductive E where
  | var (i : Nat)
  | glob (x : Str)
  | k (c : K)
  | tup (es : Es)
  | lst (live : Bool) (es : Es)
  | dct (live : Bool) (ks : List Str) (cs : List K)
  | comp (live : Bool) (elt : E) (tg : List Nat) (one : Bool) (it : I) (ifs : Es) (own : List Nat)
  | comp2 (live : Bool) (elt : E) (tg : List Nat) (one : Bool) (it : I) (tg2 : List Nat) (one2 : Bool) (it2 : I) (own : List Nat) (own2 : List Nat)
  | dcomp (live : Bool) (key val : E) (tg : List Nat) (one : Bool) (it : I) (own : List Nat)
  | bin (live : Bool) (op : Operator) (a b : E)
  | rep (live : Bool) (es : Es) (b : E)
  | neg (a : E)
  | not (a : E)
  | and (es : Es)
  | or (es : Es)
  | cmp (op : CmpOp) (a b : E)
  | cmp2 (o1 o2 : CmpOp) (a b c : E)
  | ifx (c a b : E)
  | sub (a i : E)
  | gidx (x : Str) (i : E)
  | slice (live : Bool) (a : E) (lo hi : O)
  | rev (live : Bool) (a : E)
  | call (f : Str) (es : Es)
  | callB (b : B) (live : Bool) (es : Es)
  | meth (m : M) (o : E) (es : Es)
  | isE (a : E) (cls : Str)
  | isV (a : E)
  | newK (c : Str) (f : Str) (e : E)
  | fld (o : E) (f : Str)
  | callM (o : E) (m : Str) (es : Es)
  | new (c : Str) (es : Es)
  | callV (i : Nat) (es : Es)
  | act
  | callL (f : Str) (body : E)
inductive Es where
  | nil
  | cons (e : E) (r : Es)
  | star (e : E) (r : Es)
inductive O where
  | non
  | som (e : E)
inductive I where
  | seq (e : E)
  | range (e : E)
  | range2 (a b : E)
  | enum (e : E)
  | zip2 (a b : E)
  | zip3 (a b c : E)
  | keys (e : E)
  | items (e : E)
  | values (e : E)
end
mutual
inductive T where
  | var (i : Nat)
  | sub (o i : E)
  | fld (o : E) (f : Str)
  | tup (ts : Ts)
inductive Ts where
  | nil
  | cons (t : T) (r : Ts)
end
mutual
inductive St where
  | asg (t : T) (e : E)
  | par (ts : Ts) (es : Es)
  | aug (o i e : E)
  | expr (e : E)
  | ife (c : E) (a b : Ss)
  | forr (tg : List Nat) (one : Bool) (it : I) (body : Ss)
  | whl (c : E) (body : Ss)
  | ret (e : E)
  | retN
  | raise (cls : Str) (es : Es)
  | tryC (i j : Nat) (cls : Str)
  | mtch (e : E) (cs : Cs)
  | pass
  | brk
inductive Ss where
  | nil
  | cons (s : St) (r : Ss)
  | frz (i : Nat) (r : Ss)
inductive Cs where
  | nil
  | cons (c : Str) (body : Ss) (r : Cs)
end

/-! ### the evaluator -/
structure Cx where
  /-- constants of the module -/
  glob : Str → Option D
  /-- own classes of exceptions -/
  exc : Str → Bool
  /-- defs by name -/
  call : Str → Option (List D → Store → R D)
  /-- defs that are handed a lambda -/
  callL : Str → (Store → R D) → Store → R D
  /-- the handed lambda -/
  act : Store → R D
  /-- defs as they are called within a lambda -/
  inner : Str → Option (List D → Store → R D)
def Cx.lam (C : Cx) : Cx := { C with call := C.inner, callL := fun _ _ _ => .bad, act := fun _ => .bad, inner := fun _ => none }

def rget (ρ : Env) (i : Nat) : Option D := match ρ[i]? with
  | some (some d) => some d
  | _ => none
def wipeE (ρ : Env) : List Nat → Env
  | [] => ρ
  | i :: r => (wipeE ρ r).set i none
/-- a target of one name, or of several -/
def bindE (ρ : Env) (tg : List Nat) (one : Bool) (d : D) : Option Env :=
  if one then (match tg with
    | [i] => some (ρ.set i (some d))
    | _ => none)
  else match d with
    | .tup xs => if xs.length = tg.length then some ((tg.zip xs).foldl (fun ρ p => ρ.set p.1 (some p.2)) ρ) else none
    | _ => none

def boolsOf : List D → Option (List Bool)
  | [] => some []
  | .bl b :: r => (boolsOf r).map (b :: ·)
  | _ => none
def intsOf : List D → Option (List Int)
  | [] => some []
  | .int i :: r => (intsOf r).map (i :: ·)
  | _ => none
def strsOf : List D → Option (List Str)
  | [] => some []
  | .str i :: r => (strsOf r).map (i :: ·)
  | _ => none

/-- what isinstance says of built-in classes: 0 int, 1 bool, 2 str, 3 tuple, 4 list, 5 dict -/
def isiD (S : Store) (t : Nat) (d : D) : Option Bool :=
  match d with
  | .non => some false
  | .bl _ => some (t == 0 || t == 1)
  | .int _ => some (t == 0)
  | .str _ => some (t == 2)
  | .tup _ => some (t == 3)
  | .lst _ => some (t == 4)
  | .dct _ => some (t == 5)
  | .obj id => match S[id]? with
    | some (.lst _) => some (t == 4)
    | some (.dct _) => some (t == 5)
    | _ => none
  | _ => none

def lenD (S : Store) : D → Option Int
  | .str s => if sz s.length then some s.length else none
  | d => (seqD S d).map fun xs => (xs.length : Int)

/-- tuple(d), int(d) -/
def tupleD (S : Store) (d : D) : Option D := match d with
  | .tup xs => some (.tup xs)
  | d => (lstD S d).map .tup
def intD (d : D) : Option D := match d with
  | .int i => some (.int i)
  | .bl b => some (.int (if b then 1 else 0))
  | _ => none
def min2D (d e : D) : Option D := match d, e with
  | .int i, .int j => some (.int (if j < i then j else i))
  | _, _ => none
/-- a call of a built-in, by values -/
def callBD (b : B) (live : Bool) (ds : List D) (S : Store) : R D :=
  match b, ds with
  | .len, [d] => R.ofO ((lenD S d).map .int) S
  | .repr, [d] => R.ofO ((reprD S d).map .str) S
  | .all, [d] => R.ofO (((lstD S d).bind boolsOf).map fun bs => .bl (bs.all id)) S
  | .any, [d] => R.ofO (((lstD S d).bind boolsOf).map fun bs => .bl (bs.any id)) S
  | .int, [d] => R.ofO (intD d) S
  | .tuple, [d] => R.ofO (tupleD S d) S
  | .list, [d] => match seqD S d with
    | some xs => newL live xs S
    | none => .bad
  | .sorted, [d] => match lstD S d with
    | some xs => if ordAll xs then newL live (sortT xs) S else .bad
    | none => .bad
  | .sortedSet, [d] => match seqD S d with
    | some xs => if ordAll xs && setB xs then newL live (sortT (dedupT xs)) S else .bad
    | none => .bad
  | .lenSet, [d] => match seqD S d with
    | some xs => if ordAll xs && setB xs then .ok (.int (dedupT xs).length) S else .bad
    | none => .bad
  | .isi t, [d] => R.ofO ((isiD S t d).map .bl) S
  | .min2, [d, e] => R.ofO (min2D d e) S
  | _, _ => .bad

def appendD (o x : D) (S : Store) : R D := match o with
  | .obj id => match S[id]? with
    | some (.lst xs) => if xs.length < sizeLine then .ok .non (S.set id (.lst (xs ++ [x]))) else .bad
    | _ => .bad
  | _ => .bad
def popAtD (o i : D) (S : Store) : R D := match o, i with
  | .obj id, .int k => match S[id]? with
    | some (.lst xs) => match L2.ixN xs.length k with
      | some j => match xs[j]? with
        | some x => if xs.length ≤ sizeLine then .ok x (S.set id (.lst (xs.eraseIdx j))) else .bad
        | none => .bad
      | none => .bad
    | _ => .bad
  | _, _ => .bad
def getD (o k x : D) (S : Store) : R D := match dctD S o with
  | some kvs => if keyFor kvs k then .ok ((findK kvs k).getD x) S else .bad
  | none => .bad
def extendD (o x : D) (S : Store) : R D := match o, x with
  | .obj id, .lst ys => match S[id]? with
    | some (.lst xs) => if xs.length + ys.length ≤ sizeLine then .ok .non (S.set id (.lst (xs ++ ys))) else .bad
    | _ => .bad
  | _, _ => .bad
/-- a built-in method, by values -/
def methD (m : M) (o : D) (ds : List D) (S : Store) : R D :=
  match m, ds with
  | .count, [x] => R.ofO (((lstD S o).bind (countL S x)).map fun n => .int (n : Nat)) S
  | .index, [x] => R.ofO (((lstD S o).bind (indexL x)).map fun n => .int (n : Nat)) S
  | .append, [x] => appendD o x S
  | .popAt, [x] => popAtD o x S
  | .extend, [x] => extendD o x S
  | .get, [k, x] => getD o k x S
  | _, _ => .bad

/-- o has got the method m -/
def mOk (m : M) (o : D) (S : Store) : Bool := match m with
  | .count | .index | .append | .popAt | .extend => (lstD S o).isSome
  | .get => (dctD S o).isSome
  | _ => false
/-- o[i] = v -/
def setD (o i v : D) (S : Store) : R Unit :=
  match o, i with
  | .obj id, .int k => match S[id]? with
    | some (.lst xs) => match L2.ixN xs.length k with
      | some j => .ok () (S.set id (.lst (xs.set j v)))
      | none => .bad
    | _ => .bad
  | .obj id, k => match S[id]? with
    | some (.dct kvs) => if keyFor kvs k && decide (kvs.length < 1000000) then .ok () (S.set id (.dct (putD kvs k v))) else .bad
    | _ => .bad
  | _, _ => .bad

/-- the place of a text in a tuple of texts -/
def gidxD (ys : List D) (y : D) : Option D := match y with
  | .str z => (strsOf ys).bind fun zs => (zs.findIdx? fun s => s == z).map fun n => .int (n : Nat)
  | _ => none
def intO (d : D) : Option Int := match d with
  | .int i => some i
  | _ => none
def rangeD (lo : Int) : Nat → List D
  | 0 => []
  | n + 1 => .int lo :: rangeD (lo + 1) n

/-- the exception class with an own __init__ -/
def isPE (x : Str) : Bool := x == "ParseError"
/-- e.f of an exception -/
def lineD (f : Str) : D → Option D
  | .exc x [d] => if isPE x && f == "line" then some d else none
  | _ => none
/-- what ParseError is made of -/
def parD : List D → Option D
  | [.int i] => if i.natAbs.log2 < 1920 then some (.exc "ParseError" [.int i]) else none
  | _ => none
/-- as a test -/
def testR (r : R D) : R Bool := r.bind fun d S => R.ofO (truD S d) S
/-- no exception -/
def noxR {α : Type} (r : R α) : R α := match r with
  | .ex _ _ => .bad
  | r => r
/-- the items of a comprehension -/
def compL (f : D → Env → Store → R (Option D)) : List D → Env → Store → R (List D)
  | [], _, S => .ok [] S
  | d :: ds, ρ, S => (noxR (f d ρ S)).bind fun o S => (compL f ds ρ S).bind fun r S => .ok (match o with
    | some x => x :: r
    | none => r) S

/-- the items of a comprehension of two loops -/
def compLL (f : D → Env → Store → R (List D)) : List D → Env → Store → R (List D)
  | [], _, S => .ok [] S
  | d :: ds, ρ, S => (noxR (f d ρ S)).bind fun a S => (compLL f ds ρ S).bind fun r S => .ok (a ++ r) S
/-- o[i] += e: what is there, the sum -/
def oldD (S : Store) (x y : D) : Option D := if (dctD S x).isSome then subD S x y else none
def augD (x y : D) : Option D := match x, y with
  | .int i, .int j => some (.int (i + j))
  | _, _ => none

mutual
def ev (C : Cx) : E → Env → Store → R D
  | .var i, ρ, S => R.ofO (rget ρ i) S
  | .glob x, _, S => R.ofO (C.glob x) S
  | .k c, _, S => .ok c.d S
  | .tup es, ρ, S => (evs C es ρ S).bind fun ds S => if sz ds.length then .ok (.tup ds) S else .bad
  | .lst live es, ρ, S => (evs C es ρ S).bind fun ds S => newL live ds S
  | .dct live ks cs, _, S => dispD live ks (cs.map K.d) S
  | .comp2 live elt tg one it tg2 one2 it2 own own2, ρ, S => (evI C it ρ S).bind fun ds S =>
      if ds.length ≤ 65536 then (compLL (fun d ρ S => match bindE ρ tg one d with
        | some ρ => (evI C it2 ρ S).bind fun es S => if es.length ≤ 128 then compL (fun e ρ S => match bindE ρ tg2 one2 e with
            | some ρ => (ev C elt ρ S).bind fun d S => .ok (some d) S
            | none => .bad) es (wipeE ρ own2) S else .bad
        | none => .bad) ds (wipeE ρ own) S).bind fun ds S => newL live ds S else .bad
  | .comp live elt tg one it ifs own, ρ, S => (evI C it ρ S).bind fun ds S =>
      if sz ds.length then (compL (fun d ρ S => match bindE ρ tg one d with
        | some ρ => (evIfs C ifs ρ S).bind fun b S => if b then (ev C elt ρ S).bind fun d S => .ok (some d) S else .ok none S
        | none => .bad) ds (wipeE ρ own) S).bind fun ds S => newL live ds S else .bad
  | .bin live op a b, ρ, S => (ev C a ρ S).bind fun x S => (ev C b ρ S).bind fun y S => (R.ofO (binD op x y S) S).bind fun d S => liven live d S
  | .rep live es b, ρ, S => (evs C es ρ S).bind fun xs S => if sz xs.length then (ev C b ρ S).bind fun y S => repD live xs y S else .bad
  | .neg a, ρ, S => (ev C a ρ S).bind fun x S => R.ofO ((intO x).map fun i => .int (-i)) S
  | .not a, ρ, S => (testR (ev C a ρ S)).bind fun b S => .ok (.bl (!b)) S
  | .and es, ρ, S => evAnd C es ρ S
  | .or es, ρ, S => evOr C es ρ S
  | .cmp op a b, ρ, S => (ev C a ρ S).bind fun x S => (ev C b ρ S).bind fun y S => R.ofO ((cmpD op x y S).map .bl) S
  | .cmp2 o1 o2 a b c, ρ, S => (ev C a ρ S).bind fun x S => (ev C b ρ S).bind fun y S => (R.ofO (cmpD o1 x y S) S).bind fun k S =>
      if k then (ev C c ρ S).bind fun z S => R.ofO ((cmpD o2 y z S).map .bl) S else .ok (.bl false) S
  | .ifx c a b, ρ, S => (testR (ev C c ρ S)).bind fun k S => if k then ev C a ρ S else ev C b ρ S
  | .sub a i, ρ, S => (ev C a ρ S).bind fun x S => (ev C i ρ S).bind fun y S => R.ofO (subD S x y) S
  | .gidx x i, ρ, S => match C.glob x with
    | some (.tup ys) => (ev C i ρ S).bind fun y S => R.ofO (gidxD ys y) S
    | _ => .bad
  | .slice live a lo hi, ρ, S => (ev C a ρ S).bind fun x S => (evO C lo ρ S).bind fun l S => (evO C hi ρ S).bind fun h S => (R.ofO (sliceD S x l h) S).bind fun d S => liven live d S
  | .rev live a, ρ, S => (ev C a ρ S).bind fun x S => (R.ofO (revD S x) S).bind fun d S => liven live d S
  | .call f es, ρ, S => match C.call f with
    | some h => (evs C es ρ S).bind h
    | none => .bad
  | .callB b live es, ρ, S => (evs C es ρ S).bind fun ds S => callBD b live ds S
  | .meth m o es, ρ, S => (ev C o ρ S).bind fun x S => if mOk m x S then (evs C es ρ S).bind fun ds S => methD m x ds S else .bad
  | .isE a c, ρ, S => if C.exc c then (ev C a ρ S).bind fun x S => match x with
    | .exc d _ => if C.exc d then .ok (.bl (d == c || c == ("FlushError" : Str))) S else .bad
    | _ => .bad
    else .bad
  | .isV a, ρ, S => (ev C a ρ S).bind fun x S => match x with
    | .exc d _ => if C.exc d then .ok (.bl true) S else .bad
    | _ => .bad
  | .new c es, ρ, S => if C.exc c then (evs C es ρ S).bind fun ds S => if isPE c then R.ofO (parD ds) S else (match ds with
      | [d] => .ok (.exc c [d]) S
      | _ => .bad) else .bad
  | .newK c f e, ρ, S => if C.exc c && isPE c && f == "line" then (ev C e ρ S).bind fun d S => R.ofO (parD [d]) S else .bad
  | .fld e f, ρ, S => if C.exc "ParseError" && f == "line" then (ev C e ρ S).bind fun x S => R.ofO (lineD f x) S else .bad
  | .act, _, S => C.act S
  | .callL f body, ρ, S => noxR (C.callL f (fun S => ev C.lam body ρ S) S)
  | _, _, _ => .bad
def evs (C : Cx) : Es → Env → Store → R (List D)
  | .nil, _, S => .ok [] S
  | .cons e r, ρ, S => (ev C e ρ S).bind fun d S => (evs C r ρ S).bind fun ds S => .ok (d :: ds) S
  | .star e r, ρ, S => (ev C e ρ S).bind fun d S => match seqD S d with
    | some xs => (evs C r ρ S).bind fun ds S => .ok (xs ++ ds) S
    | none => .bad
def evAnd (C : Cx) : Es → Env → Store → R D
  | .cons e .nil, ρ, S => ev C e ρ S
  | .cons e r, ρ, S => (ev C e ρ S).bind fun d S => (R.ofO (truD S d) S).bind fun b S => if b then evAnd C r ρ S else .ok d S
  | _, _, _ => .bad
def evOr (C : Cx) : Es → Env → Store → R D
  | .cons e .nil, ρ, S => ev C e ρ S
  | .cons e r, ρ, S => (ev C e ρ S).bind fun d S => (R.ofO (truD S d) S).bind fun b S => if b then .ok d S else evOr C r ρ S
  | _, _, _ => .bad
def evIfs (C : Cx) : Es → Env → Store → R Bool
  | .nil, _, S => .ok true S
  | .cons e .nil, ρ, S => testR (ev C e ρ S)
  | _, _, _ => .bad
def evO (C : Cx) : O → Env → Store → R (Option Int)
  | .non, _, S => .ok none S
  | .som e, ρ, S => (ev C e ρ S).bind fun d S => match d with
    | .int i => .ok (some i) S
    | _ => .bad
def evI (C : Cx) : I → Env → Store → R (List D)
  | .seq e, ρ, S => (ev C e ρ S).bind fun d S => match d with
    | .tup xs => .ok xs S
    | .lst xs => .ok xs S
    | .dct kvs => .ok (kvs.map (·.1)) S
    | _ => .bad
  | .range e, ρ, S => (ev C e ρ S).bind fun d S => match d with
    | .int n => if -(2 ^ 62) ≤ n ∧ n < 2 ^ 62 then .ok (rangeD 0 n.toNat) S else .bad
    | _ => .bad
  | _, _, _ => .bad
end

/-! ### statements -/
inductive Fl where
  | nx | rt (d : D) | bk
abbrev RF := R (Fl × Env)

def forL (f : D → Env → Store → RF) : List D → Env → Store → RF
  | [], ρ, S => .ok (.nx, ρ) S
  | d :: ds, ρ, S => (f d ρ S).bind fun p S => match p.1 with
    | .nx => forL f ds p.2 S
    | .rt d => .ok (.rt d, p.2) S
    | .bk => .ok (.nx, p.2) S
def whileL (c : Env → Store → R Bool) (f : Env → Store → RF) : Nat → Env → Store → RF
  | 0, _, _ => .bad
  | n + 1, ρ, S => (c ρ S).bind fun b S => if b then (f ρ S).bind fun p S => match p.1 with
    | .nx => whileL c f n p.2 S
    | .rt d => .ok (.rt d, p.2) S
    | .bk => .ok (.nx, p.2) S
    else .ok (.nx, ρ) S
def wFuel : Nat := 1000000000

def frzFs (g : D → Store → Option (D × Store)) : List (Str × D) → Store → Option (List (Str × D) × Store)
  | [], S => some ([], S)
  | (x, d) :: r, S => match g d S with
    | some (d', S') => (frzFs g r S').map fun p => ((x, d') :: p.1, p.2)
    | none => none
/-- a live list, dict or instance as a tree, and the store without it (its own parts too) -/
def frzD : Nat → D → Store → Option (D × Store)
  | 0, d, S => match d with
    | .obj _ => none
    | d => some (d, S)
  | n + 1, d, S => match d with
    | .obj id => match S[id]? with
      | some (.lst xs) => some (.lst xs, S.set id .dead)
      | some (.dct kvs) => some (.dct kvs, S.set id .dead)
      | some (.ins c fs) => (frzFs (frzD n) fs (S.set id .dead)).map fun p => (.ins c p.1, p.2)
      | _ => none
    | d => some (d, S)

def asgs (f : D → Env → Store → R Env) : List D → Env → Store → R Env
  | [], ρ, S => .ok ρ S
  | d :: ds, ρ, S => (f d ρ S).bind fun ρ S => asgs f ds ρ S

def lenTs : Ts → Nat
  | .nil => 0
  | .cons _ r => lenTs r + 1
mutual
/-- target = d -/
def asgT (C : Cx) : T → D → Env → Store → R Env
  | .var i, d, ρ, S => .ok (ρ.set i (some d)) S
  | .sub o i, d, ρ, S => (ev C o ρ S).bind fun x S => (ev C i ρ S).bind fun y S => (setD x y d S).bind fun _ S => .ok ρ S
  | .fld _ _, _, _, _ => .bad
  | .tup ts, d, ρ, S => match d with
    | .tup xs => if xs.length = lenTs ts then asgTs C ts xs ρ S else .bad
    | _ => .bad
def asgTs (C : Cx) : Ts → List D → Env → Store → R Env
  | .nil, [], ρ, S => .ok ρ S
  | .cons t r, d :: ds, ρ, S => (asgT C t d ρ S).bind fun ρ S => asgTs C r ds ρ S
  | _, _, _, _ => .bad
end
mutual
def exec (C : Cx) : St → Env → Store → RF
  | .asg t e, ρ, S => (ev C e ρ S).bind fun d S => (asgT C t d ρ S).bind fun ρ S => .ok (.nx, ρ) S
  | .par ts es, ρ, S => (evs C es ρ S).bind fun ds S => if sz ds.length && ds.length == lenTs ts then (asgTs C ts ds ρ S).bind fun ρ S => .ok (.nx, ρ) S else .bad
  | .aug o i e, ρ, S => (ev C o ρ S).bind fun x S => (ev C i ρ S).bind fun y S => (R.ofO (oldD S x y) S).bind fun a S => (ev C e ρ S).bind fun b S => (R.ofO (augD a b) S).bind fun d S => (setD x y d S).bind fun _ S => .ok (.nx, ρ) S
  | .expr e, ρ, S => (ev C e ρ S).bind fun _ S => .ok (.nx, ρ) S
  | .ife c a b, ρ, S => (testR (ev C c ρ S)).bind fun k S => if k then execs C a ρ S else execs C b ρ S
  | .forr tg one it body, ρ, S => (evI C it ρ S).bind fun ds S => forL (fun d ρ S => match bindE ρ tg one d with
      | some ρ => execs C body ρ S
      | none => .bad) ds ρ S
  | .whl c body, ρ, S => whileL (fun ρ S => testR (ev C c ρ S)) (fun ρ S => execs C body ρ S) wFuel ρ S
  | .ret e, ρ, S => (ev C e ρ S).bind fun d S => .ok (.rt d, ρ) S
  | .retN, ρ, S => .ok (.rt .non, ρ) S
  | .raise c es, ρ, S => if C.exc c && !isPE c then (evs C es ρ S).bind fun ds S => .ex (.exc c ds) S else .bad
  | .tryC i j cls, ρ, S => match C.act S with
    | .ok _ S => .ok (.nx, ρ) S
    | .ex (.exc x a) S => if C.exc x && cls == ("FlushError" : Str) then .ok (.nx, (ρ.set i (some (.exc x a))).set j none) S else .bad
    | _ => .bad
  | .mtch _ _, _, _ => .bad
  | .pass, ρ, S => .ok (.nx, ρ) S
  | .brk, ρ, S => .ok (.bk, ρ) S
def execs (C : Cx) : Ss → Env → Store → RF
  | .nil, ρ, S => .ok (.nx, ρ) S
  | .cons s r, ρ, S => (exec C s ρ S).bind fun p S => match p.1 with
    | .nx => execs C r p.2 S
    | f => .ok (f, p.2) S
  | .frz i r, ρ, S => match rget ρ i with
    | some d => match frzD 4 d S with
      | some (d, S) => execs C r (ρ.set i (some d)) S
      | none => .bad
    | none => .bad
end

/-! ### defs -/
structure Def where
  /-- parameters, slots -/
  ps : Nat
  n : Nat
  N : List Str
  body : Ss
  /-- what it makes stays in the store -/
  keep : Bool := false
  /-- it is handed a lambda -/
  lam : Bool := false
  /-- it makes lambdas -/
  lm : Bool := false
structure Tab where
  glob : Str → Option D
  exc : Str → Bool
  defs : Str → Option Def

mutual
/-- more than any object's number in it -/
def topD : D → Nat
  | .obj i => i + 1
  | .tup xs => topDs xs
  | .lst xs => topDs xs
  | .dct kvs => topDk kvs
  | .ins _ fs => topDf fs
  | _ => 0
def topDs : List D → Nat
  | [] => 0
  | d :: ds => max (topD d) (topDs ds)
def topDk : List (D × D) → Nat
  | [] => 0
  | (k, v) :: ds => max (max (topD k) (topD v)) (topDk ds)
def topDf : List (Str × D) → Nat
  | [] => 0
  | (_, v) :: ds => max (topD v) (topDf ds)
end
def topM : MO → Nat
  | .dead => 0
  | .lst xs => topDs xs
  | .dct kvs => topDk kvs
  | .ins _ fs => topDf fs
/-- the store without the objects from the n-th on, if nothing that stays names them -/
def cutR (keep : Bool) (n : Nat) (d : D) (S : Store) : R D :=
  if keep || S.length == n then .ok d S else if decide (n ≤ S.length ∧ topD d ≤ n) && (S.take n).all (fun o => decide (topM o ≤ n)) then .ok d (S.take n) else .bad
/-- behind a body -/
def backR (keep : Bool) (n : Nat) (r : RF) : R D := match r with
  | .ok (.rt d, _) S => cutR keep n d S
  | .ok (.nx, _) S => cutR keep n .non S
  | .ok (.bk, _) _ => .bad
  | .ex d S => match cutR keep n d S with
    | .ok d S => .ex d S
    | _ => .bad
  | .bad => .bad
def runD (C : Cx) (d : Def) (ds : List D) (S : Store) : R D :=
  if ds.length = d.ps then backR d.keep S.length (execs C d.body (ds.map some ++ List.replicate (d.n - d.ps) none) S) else .bad
def runL (C : Cx) (d : Def) (act : Store → R D) (S : Store) : R D :=
  if d.ps = 1 then backR d.keep S.length (execs { C with act := act } d.body (List.replicate d.n none) S) else .bad
mutual
def callN (T : Tab) : Nat → Str → Option (List D → Store → R D)
  | n + 3, f => match T.defs f with
    | some d => if d.lam then none else some (runD { glob := T.glob, exc := T.exc, call := callN T (n + 2), callL := callLN T (n + 2), act := fun _ => .bad, inner := callN T n } d)
    | none => none
  | _, _ => none
def callLN (T : Tab) : Nat → Str → (Store → R D) → Store → R D
  | n + 1, f, act, S => match T.defs f with
    | some d => if d.lam then runL { glob := T.glob, exc := T.exc, call := callN T n, callL := fun _ _ _ => .bad, act := act, inner := fun _ => none } d act S else .bad
    | none => .bad
  | _, _, _, _ => .bad
end
end FT
end

section
set_option Elab.async false
set_option linter.all false
set_option maxRecDepth 100000
set_option autoImplicit false
/-! FT.Sound1: what data stand for in the heap; the readings that the evaluator gives. -/
namespace FT
open PySem L2 LamX

/-- what is fixed -/
structure Cfg where
  P : Program
  w : World
  K : PySem.W.Frag
  mg : Str → Option Value
  base : Heap
  /-- tables of code objects -/
  tbl : List (Addr × Str)
/-- the frozen part of the heap, the addresses of the live objects, what is kept aside -/
structure G where
  F : Hp
  φ : List Addr
  R : Hp
/-- more is known -/
structure G.lt (g g' : G) : Prop where
  F : ∀ a o, g.F a = some o → g'.F a = some o
  φ : ∃ r, g'.φ = g.φ ++ r
structure G.le (g g' : G) : Prop extends G.lt g g' where
  R : g'.R = g.R
theorem G.lt.trans {a b c : G} (h : a.lt b) (k : b.lt c) : a.lt c := ⟨fun x o e => k.F x o (h.F x o e), by
  obtain ⟨r, e⟩ := h.φ
  obtain ⟨r', e'⟩ := k.φ
  exact ⟨r ++ r', by rw [e', e, List.append_assoc]⟩⟩
theorem G.le.refl (g : G) : g.le g := ⟨⟨fun _ _ h => h, [], by simp⟩, rfl⟩
theorem G.le.trans {a b c : G} (h : a.le b) (k : b.le c) : a.le c := ⟨h.tolt.trans k.tolt, by rw [k.R, h.R]⟩
theorem G.lt.at {g g' : G} (h : g.lt g') {i : Nat} {a : Addr} (e : g.φ[i]? = some a) : g'.φ[i]? = some a := by
  obtain ⟨r, e'⟩ := h.φ
  obtain ⟨hi, _⟩ := List.getElem?_eq_some_iff.mp e
  rw [e', List.getElem?_append_left hi]
  exact e

/-- an exception object of the own class at C -/
def ExcA (C a : Addr) : HO := .ext fun h => ∃ (oe : Obj) (vs : Array Value), h.get? a = some oe ∧ Zc (.ref C) none oe ∧ oe.data = .fields vs

/-- a dict, exactly -/
def DX (a : Addr) (o : Obj) : HO := .ext fun h => h.get? a = some o
mutual
def keyT : D → NestedKey
  | .bl b => .num (if b = true then 1 else 0)
  | .int i => .num i
  | .str s => .text s
  | .tup xs => .tup (keyTs xs)
  | _ => .none
def keyTs : List D → List NestedKey
  | [] => []
  | d :: ds => keyT d :: keyTs ds
end
/-- keys that are texts; keys that are tuples -/
def DTxt (c : Cfg) (es : Array DictEntry) (dks : List D) (ks vs : List V) : Prop :=
  ∃ (kv : List (Key × Value)) (ss : List Str), KeysOf (mixKind c.P c.w) es ∧ Pairs (mixKind c.P c.w) es.toList kv ∧ (kv.map (·.1)).Nodup ∧ dks = ss.map .str ∧ kv.map (·.1) = ss.map .inr ∧ ks = ss.map .str ∧ Vals vs (kv.map (·.2))
def DTup (c : Cfg) (es : Array DictEntry) (dks : List D) (ks vs : List V) : Prop :=
  ∃ xs : List (NestedKey × Addr × Value), es.toList = xs.map (entryOfKey (nestedKind c.P c.w)) ∧ (xs.map (·.1)).Nodup ∧ xs.map (·.1) = dks.map keyT ∧ ks = xs.map (fun x => V.ref x.2.1) ∧ Vals vs (xs.map (·.2.2)) ∧ ∀ d ∈ dks, keyB d = true
/-- the object o at a is a dict with these keys and values -/
structure DctP (c : Cfg) (a : Addr) (o : Obj) (dks : List D) (ks vs : List V) : Prop where
  ex : o.ExactDict
  sys : (a == sysModules) = false
  len : dks.length ≤ 1000000
  ds : ∃ es ep, o.data = .dict es ep ∧ (DTxt c es dks ks vs ∨ DTup c es dks ks vs)

/-- a list, or a list that the module's top has written -/
def LsO (K : PySem.W.Frag) (F : Hp) (a : Addr) (xs : List V) : Prop :=
  Rd F a (.lst xs) ∨ ∃ (its : List Value) (n : Nat), K.lookup a = some { cls := .type "list", data := .seq its.toArray n } ∧ xs.length ≤ sizeLine ∧ Vals xs its
theorem LsO.sq {K : PySem.W.Frag} {F : Hp} {a : Addr} {xs : List V} (h : LsO K F a xs) : SqL K F a xs := by
  rcases h with h | ⟨its, n, h1, h2, h3⟩
  · exact .inl h
  · exact .inr ⟨_, its.toArray, n, h1, rfl, rfl, rfl, by rw [List.size_toArray, ← h3.length]; exact h2, by simpa using h3⟩

mutual
inductive Rep (c : Cfg) (g : G) : D → V → Prop
  | non : Rep c g .non .non
  | bl (b : Bool) : Rep c g (.bl b) (.bl b)
  | int (i : Int) : Rep c g (.int i) (.int i)
  | str (x : Str) : Rep c g (.str x) (.str x)
  | tup {a : Addr} {vs : List V} {ds : List D} : SqT c.K g.F a vs → RepAll c g ds vs → Rep c g (.tup ds) (.ref a)
  | lst {a : Addr} {vs : List V} {ds : List D} : LsO c.K g.F a vs → RepAll c g ds vs → Rep c g (.lst ds) (.ref a)
  | dct {a : Addr} {o : Obj} {ks vs : List V} {kvs : List (D × D)} : (g.F a = some (DX a o) ∨ c.K.lookup a = some o) → DctP c a o (kvs.map (·.1)) ks vs → RepAll c g (kvs.map (·.1)) ks → RepAll c g (kvs.map (·.2)) vs → Rep c g (.dct kvs) (.ref a)
  | obj {i : Nat} {a : Addr} : g.φ[i]? = some a → Rep c g (.obj i) (.ref a)
  | exc {x : Str} {a C : Addr} {ds : List D} : c.mg x = some (.ref C) → isPE x = false → g.F a = some (ExcA C a) → Rep c g (.exc x ds) (.ref a)
  | exl {x : Str} {a C dd : Addr} {i : Int} : c.mg x = some (.ref C) → isPE x = true → g.F a = some (exo a C (some dd)) → g.F dd = some (exd dd [("line", .int i)]) → Rep c g (.exc x [.int i]) (.ref a)
inductive RepAll (c : Cfg) (g : G) : List D → List V → Prop
  | nil : RepAll c g [] []
  | cons {d : D} {v : V} {ds : List D} {vs : List V} : Rep c g d v → RepAll c g ds vs → RepAll c g (d :: ds) (v :: vs)
end

theorem rd_mono {F F' : Hp} (h : ∀ a o, F a = some o → F' a = some o) {a : Addr} {u : HO} (r : Rd F a u) : Rd F' a u := by
  rcases r with r | ⟨o, r⟩
  · exact .inl (h _ _ r)
  · exact .inr ⟨o, h _ _ r⟩
theorem sqL_mono {K : PySem.W.Frag} {F F' : Hp} (h : ∀ a o, F a = some o → F' a = some o) {a : Addr} {xs : List V} (r : SqL K F a xs) : SqL K F' a xs :=
  r.imp (rd_mono h) id
theorem LsO.mono {K : PySem.W.Frag} {F F' : Hp} (h : ∀ a o, F a = some o → F' a = some o) {a : Addr} {xs : List V} (r : LsO K F a xs) : LsO K F' a xs :=
  r.imp (rd_mono h) id
theorem sqT_mono {K : PySem.W.Frag} {F F' : Hp} (h : ∀ a o, F a = some o → F' a = some o) {a : Addr} {xs : List V} (r : SqT K F a xs) : SqT K F' a xs :=
  r.imp (rd_mono h) id
mutual
theorem Rep.mono {c : Cfg} {g g' : G} (h : g.lt g') : ∀ {d : D} {v : V}, Rep c g d v → Rep c g' d v
  | _, _, .non => .non
  | _, _, .bl b => .bl b
  | _, _, .int i => .int i
  | _, _, .str x => .str x
  | _, _, .tup s r => .tup (sqT_mono h.F s) (RepAll.mono h r)
  | _, _, .lst s r => .lst (s.mono h.F) (RepAll.mono h r)
  | _, _, .dct e p k v => .dct (e.imp (h.F _ _) id) p (RepAll.mono h k) (RepAll.mono h v)
  | _, _, .obj e => .obj (h.at e)
  | _, _, .exc m p e => .exc m p (h.F _ _ e)
  | _, _, .exl m p e e2 => .exl m p (h.F _ _ e) (h.F _ _ e2)
theorem RepAll.mono {c : Cfg} {g g' : G} (h : g.lt g') : ∀ {ds : List D} {vs : List V}, RepAll c g ds vs → RepAll c g' ds vs
  | _, _, .nil => .nil
  | _, _, .cons r t => .cons (Rep.mono h r) (RepAll.mono h t)
end
section
variable {c : Cfg} {g g' : G}
theorem RepAll.length : ∀ {ds : List D} {vs : List V}, RepAll c g ds vs → ds.length = vs.length
  | _, _, .nil => rfl
  | _, _, .cons _ t => congrArg (· + 1) (RepAll.length t)
theorem RepAll.get : ∀ {ds : List D} {vs : List V} {i : Nat} {d : D}, RepAll c g ds vs → ds[i]? = some d → ∃ v, vs[i]? = some v ∧ Rep c g d v
  | _, _, _, _, .nil, e => by simp at e
  | _, _, 0, _, .cons r _, e => by simp at e; subst e; exact ⟨_, rfl, r⟩
  | _, _, i + 1, d, .cons r t, e => by
    obtain ⟨u, h1, h2⟩ := RepAll.get (i := i) (d := d) t (by simpa using e)
    exact ⟨u, by simpa using h1, h2⟩
theorem RepAll.append : ∀ {ds es : List D} {vs ws : List V}, RepAll c g ds vs → RepAll c g es ws → RepAll c g (ds ++ es) (vs ++ ws)
  | _, _, _, _, .nil, s => s
  | _, _, _, _, .cons r t, s => .cons r (RepAll.append t s)
theorem RepAll.take : ∀ {ds : List D} {vs : List V} (n : Nat), RepAll c g ds vs → RepAll c g (ds.take n) (vs.take n)
  | _, _, 0, _ => .nil
  | _, _, _ + 1, .nil => .nil
  | _, _, n + 1, .cons r t => .cons r (RepAll.take n t)
theorem RepAll.drop : ∀ {ds : List D} {vs : List V} (n : Nat), RepAll c g ds vs → RepAll c g (ds.drop n) (vs.drop n)
  | _, _, 0, r => r
  | _, _, _ + 1, .nil => .nil
  | _, _, n + 1, .cons _ t => RepAll.drop n t
theorem RepAll.reverse : ∀ {ds : List D} {vs : List V}, RepAll c g ds vs → RepAll c g ds.reverse vs.reverse
  | _, _, .nil => .nil
  | _, _, .cons r t => by
    rw [List.reverse_cons, List.reverse_cons]
    exact (RepAll.reverse t).append (.cons r .nil)
theorem RepAll.set {d : D} {v : V} (r : Rep c g d v) : ∀ {ds : List D} {vs : List V} (i : Nat), RepAll c g ds vs → RepAll c g (ds.set i d) (vs.set i v)
  | _, _, _, .nil => .nil
  | _, _, 0, .cons _ t => .cons r t
  | _, _, i + 1, .cons q t => .cons q (RepAll.set r i t)
theorem RepAll.eraseIdx : ∀ {ds : List D} {vs : List V} (i : Nat), RepAll c g ds vs → RepAll c g (ds.eraseIdx i) (vs.eraseIdx i)
  | _, _, _, .nil => .nil
  | _, _, 0, .cons _ t => t
  | _, _, i + 1, .cons q t => .cons q (RepAll.eraseIdx i t)
theorem RepAll.flat : ∀ (n : Nat) {ds : List D} {vs : List V}, RepAll c g ds vs → RepAll c g (List.replicate n ds).flatten (List.replicate n vs).flatten
  | 0, _, _, _ => .nil
  | n + 1, _, _, r => by
    rw [List.replicate_succ, List.replicate_succ, List.flatten_cons, List.flatten_cons]
    exact r.append (RepAll.flat n r)
end

/-- a live object in the heap -/
def LiveO (c : Cfg) (g : G) (H : Hp) (a : Addr) : MO → Prop
  | .dead => True
  | .lst xs => (g.F a = none ∧ g.R a = none) ∧ ∃ vs, H a = some (.lst vs) ∧ RepAll c g xs vs
  | .dct kvs => (g.F a = none ∧ g.R a = none) ∧ ∃ o ks vs, H a = some (DX a o) ∧ DctP c a o (kvs.map (·.1)) ks vs ∧ RepAll c g (kvs.map (·.1)) ks ∧ RepAll c g (kvs.map (·.2)) vs
  | _ => False
def MO.alive : MO → Bool
  | .dead => false
  | _ => true
structure RelS (c : Cfg) (g : G) (S : Store) (H : Hp) : Prop where
  sub : ∀ a o, g.F a = some o → H a = some o
  rest : ∀ a o, g.R a = some o → H a = some o
  dis : ∀ a o, g.R a = some o → g.F a = none
  ntb : ∀ a ps, g.F a ≠ some (.tbl ps)
  len : g.φ.length = S.length
  live : ∀ (i : Nat) a o, g.φ[i]? = some a → S[i]? = some o → LiveO c g H a o
  inj : ∀ (i j : Nat) a o o', g.φ[i]? = some a → g.φ[j]? = some a → S[i]? = some o → S[j]? = some o' → o.alive = true → o'.alive = true → i = j
  tabs : Tabs c.tbl H
  rtb : ∀ a ps, g.R a ≠ some (.tbl ps)
/-- the slots -/
structure RelE (c : Cfg) (g : G) (ρ : Env) (σ : L2.St) : Prop where
  len : ρ.length = σ.length
  at_ : ∀ (i : Nat) d, ρ[i]? = some (some d) → ∃ v, σ[i]? = some (some v) ∧ Rep c g d v
theorem RelE.mono {c : Cfg} {g g' : G} {ρ : Env} {σ : L2.St} (r : RelE c g ρ σ) (h : g.lt g') : RelE c g' ρ σ :=
  ⟨r.len, fun i d e => let ⟨v, e1, e2⟩ := r.at_ i d e; ⟨v, e1, e2.mono h⟩⟩
theorem RelE.set {c : Cfg} {g : G} {ρ : Env} {σ : L2.St} (r : RelE c g ρ σ) {d : D} {v : V} (q : Rep c g d v) (i : Nat) : RelE c g (ρ.set i (some d)) (σ.set i (some v)) := by
  refine ⟨by simp [r.len], fun j e hj => ?_⟩
  by_cases h : i = j
  · subst h
    by_cases hl : i < ρ.length
    · rw [List.getElem?_set_self hl] at hj
      cases hj
      exact ⟨v, by rw [List.getElem?_set_self (by rw [← r.len]; exact hl)], q⟩
    · rw [List.getElem?_eq_none (by simpa using hl)] at hj; cases hj
  · rw [List.getElem?_set_ne h] at hj ⊢
    exact r.at_ j e hj
theorem RelE.unset {c : Cfg} {g : G} {ρ : Env} {σ : L2.St} (r : RelE c g ρ σ) (i : Nat) : RelE c g (ρ.set i none) (σ.set i none) := by
  refine ⟨by simp [r.len], fun j e hj => ?_⟩
  by_cases h : i = j
  · subst h
    by_cases hl : i < ρ.length
    · rw [List.getElem?_set_self hl] at hj; cases hj
    · rw [List.getElem?_eq_none (by simpa using hl)] at hj; cases hj
  · rw [List.getElem?_set_ne h] at hj ⊢
    exact r.at_ j e hj
theorem RelE.wipe {c : Cfg} {g : G} {ρ : Env} {σ : L2.St} (r : RelE c g ρ σ) : ∀ l : List Nat, RelE c g (wipeE ρ l) (L2.wipe σ l)
  | [] => r
  | i :: l => (RelE.wipe r l).unset i

/-! ### what is wanted of a result -/
/-- an exception as data -/
def ExcR (c : Cfg) : D → Value → Option Addr → Prop
  | .exc x ds, cls, dx => ∃ C, c.mg x = some (.ref C) ∧ cls = .ref C ∧ dx = none ∧ isPE x = false
  | _, _, _ => False
def wR (c : Cfg) (W : WX) (σ : L2.St) {α : Type} (g : G) (k : α → Store → Hp → G → Prop) : R α → Prop
  | .ok a S' => ∀ H' g', g.le g' → RelS c g' S' H' → k a S' H' g'
  | .ex d S' => ∀ cls dx H' g', g.le g' → RelS c g' S' H' → ExcR c d cls dx → W cls dx σ H'
  | .bad => False
section
variable {c : Cfg} {W : WX} {σ : L2.St} {α β : Type} {g g' : G} {k k' : α → Store → Hp → G → Prop} {r : R α}
theorem wR.mono (h : g.le g') (w : wR c W σ g k r) : wR c W σ g' k r := by
  cases r with
  | ok a S => exact fun H' g'' l s => w H' g'' (h.trans l) s
  | ex d S => exact fun cls dx H' g'' l s e => w cls dx H' g'' (h.trans l) s e
  | bad => exact w
theorem wR.imp (w : wR c W σ g k r) (h : ∀ a S H' g', g.le g' → RelS c g' S H' → k a S H' g' → k' a S H' g') : wR c W σ g k' r := by
  cases r with
  | ok a S => exact fun H' g'' l s => h a S H' g'' l s (w H' g'' l s)
  | ex d S => exact w
  | bad => exact w
theorem wR.bind {k : β → Store → Hp → G → Prop} {f : α → Store → R β} (w : wR c W σ g k (r.bind f)) : wR c W σ g (fun a S H' g' => wR c W σ g' k (f a S)) r := by
  cases r with
  | ok a S => exact fun H' g'' l s => wR.mono (α := β) l w
  | ex d S => exact w
  | bad => exact w
theorem wR.ofO {o : Option α} {S : Store} (w : wR c W σ g k (R.ofO o S)) : ∃ a, o = some a ∧ wR c W σ g k (.ok a S) := by
  cases o with
  | some a => exact ⟨a, rfl, w⟩
  | none => exact w.elim
end

/-! ### the readings -/
/-- where the slots and the heap are as told -/
def At (c : Cfg) (σ : L2.St) (H : Hp) (p : Env → Store → G → Prop) : Prop := ∃ ρ S g, RelE c g ρ σ ∧ RelS c g S H ∧ p ρ S g
def tE (c : Cfg) (W : WX) (f : Env → Store → R D) : TE := fun σ H Q => At c σ H fun ρ S g => wR c W σ g (fun d _ H' g' => ∀ v, Rep c g' d v → Q v H') (f ρ S)
def tT (c : Cfg) (W : WX) (f : Env → Store → R Bool) : TT := fun σ H Q => At c σ H fun ρ S g => wR c W σ g (fun b _ H' _ => Q b H') (f ρ S)
def tA (c : Cfg) (W : WX) (f : Env → Store → R (List D)) : TA := fun σ H Q => At c σ H fun ρ S g => wR c W σ g (fun ds _ H' g' => ∀ vs, RepAll c g' ds vs → Q vs H') (f ρ S)
def wRF (c : Cfg) (W : WX) (D : Ends) (g : G) : RF → Prop
  | .ok (.nx, ρ') S' => ∀ σ' H' g', g.le g' → RelS c g' S' H' → RelE c g' ρ' σ' → D.nx σ' H'
  | .ok (.rt d, ρ') S' => ∀ v H' g', g.le g' → RelS c g' S' H' → Rep c g' d v → D.rt v H'
  | .ok (.bk, ρ') S' => ∀ σ' H' g', g.le g' → RelS c g' S' H' → RelE c g' ρ' σ' → D.bk σ' H'
  | .ex d S' => ∀ cls dx σ' H' g', g.le g' → RelS c g' S' H' → ExcR c d cls dx → W cls dx σ' H'
  | .bad => False
def tS (c : Cfg) (W : WX) (f : Env → Store → RF) : TS := fun D σ H => At c σ H fun ρ S g => wRF c W D g (f ρ S)
section
variable {X : L2.Cx} {e : Expr} {t t' : TE}
theorem PE.imp (h : PE X e t) (i : ∀ σ H Q, t' σ H Q → t σ H Q) : PE X e t' := ⟨fun pins s σ H Q I q => h.run pins s σ H Q I (i σ H Q q)⟩
theorem PT.imp {t t' : TT} (h : PT X e t) (i : ∀ σ H Q, t' σ H Q → t σ H Q) : PT X e t' := ⟨fun pins s σ H Q I q => h.run pins s σ H Q I (i σ H Q q)⟩
theorem PA.imp {es : List Expr} {t t' : TA} (h : PA X es t) (i : ∀ σ H Q, t' σ H Q → t σ H Q) : PA X es t' := ⟨fun pos pins s σ H Q I q => h.run pos pins s σ H Q I (i σ H Q q)⟩
theorem PS.imp {st : Stmt} {t t' : TS} (h : PS X st t) (i : ∀ D σ H, t' D σ H → t D σ H) : PS X st t' := ⟨fun pins s σ H D I q => h.run pins s σ H D I (i D σ H q)⟩
theorem PSs.imp {st : List Stmt} {t t' : TS} (h : PSs X st t) (i : ∀ D σ H, t' D σ H → t D σ H) : PSs X st t' := ⟨fun pins s σ H D I q => h.run pins s σ H D I (i D σ H q)⟩
end
end FT
end

section
set_option Elab.async false
set_option linter.all false
set_option maxRecDepth 100000
set_option autoImplicit false
/-! FT.Sound2: the store's steps. -/
namespace FT
open PySem L2 LamX

theorem tabs_upd {T : List (Addr × Str)} {H : Hp} {a : Addr} {o : HO} (t : Tabs T H) (h : ∀ u, H a = some u → (∀ ps, u ≠ .tbl ps) ∧ ∀ q, u ≠ CodeO a q) : Tabs T (upd H a o) := fun p hp => by
  obtain ⟨ps, h1, h2, h3⟩ := t p hp
  refine ⟨ps, ?_, h2, fun pos cv hc => ?_⟩
  · rw [upd_ne]
    · exact h1
    · intro z; subst z
      exact (h _ h1).1 ps rfl
  · obtain ⟨c, e1, e2⟩ := h3 pos cv hc
    refine ⟨c, e1, ?_⟩
    rw [upd_ne]
    · exact e2
    · intro z; subst z
      exact (h _ e2).2 _ rfl
theorem heap_of (a : Addr) (o : Obj) (ho : o.isFreed = false) : ∃ h : Heap, h.get? a = some o := by
  have key : ∀ n : Nat, ∃ h : Heap, h.objs.size = n := by
    intro n
    induction n with
    | zero => exact ⟨{ objs := #[] }, rfl⟩
    | succ n ih =>
      obtain ⟨h, e⟩ := ih
      exact ⟨h.push o, by rw [Heap.size_push, e]⟩
  obtain ⟨h, e⟩ := key a
  exact ⟨h.push o, by rw [← e]; exact Heap.get?_push_size h ho⟩
theorem DctP.no {c : Cfg} {a : Addr} {o : Obj} {dks : List D} {ks vs : List V} (p : DctP c a o dks ks vs) : (∀ ps : Array Value, DX a o ≠ .tbl ps) ∧ ∀ q : Str, DX a o ≠ CodeO a q := by
  refine ⟨fun ps z => HO.noConfusion (show HO.ext _ = .tbl ps from z), fun q z => ?_⟩
  obtain ⟨es, ep, e, _⟩ := p.ds
  have hf : o.isFreed = false := by
    obtain ⟨oc, od, dt, sl⟩ := o
    simp only at e
    subst e
    rfl
  obtain ⟨h, hh⟩ := heap_of a o hf
  injection z with z
  have z2 : (h.get? a = some o) = ∃ (oc : Obj) (vs : Array Value) (t : Tok), h.get? a = some oc ∧ oc.data = .fields vs ∧ vs[1]? = some (.str q t) := congrFun z h
  rw [z2] at hh
  obtain ⟨oc, us, t, h1, h2, _⟩ := hh
  obtain ⟨h', hh'⟩ := heap_of a o hf
  have z3 : (h'.get? a = some o) = ∃ (oc : Obj) (vs : Array Value) (t : Tok), h'.get? a = some oc ∧ oc.data = .fields vs ∧ vs[1]? = some (.str q t) := congrFun z h'
  have h3 := hh'
  rw [z3] at h3
  obtain ⟨oc', us', t', g1, g2, _⟩ := h3
  rw [hh'] at g1
  cases g1
  rw [e] at g2
  cases g2
theorem lst_no' {vs : List V} {a : Addr} : (∀ ps : Array Value, HO.lst vs ≠ .tbl ps) ∧ ∀ (q : Str), HO.lst vs ≠ CodeO a q := ⟨fun ps z => HO.noConfusion z, fun q z => HO.noConfusion (show HO.lst vs = .ext _ from z)⟩
theorem lst_no {vs : List V} : (∀ ps : Array Value, HO.lst vs ≠ .tbl ps) ∧ ∀ (c : Addr) (q : Str), HO.lst vs ≠ CodeO c q := ⟨fun ps z => HO.noConfusion z, fun c q z => HO.noConfusion (show HO.lst vs = .ext _ from z)⟩

section
variable {c : Cfg} {g g' : G} {S : Store} {H : Hp} {a p : Addr} {vs : List V} {xs : List D} {id : Nat} {o : HO}
theorem LiveO.mono (h : g.lt g') (ha : g'.F a = g.F a) (hR : g'.R a = g.R a) {m : MO} (l : LiveO c g H a m) : LiveO c g' H a m := by
  cases m with
  | dead => trivial
  | lst xs =>
    obtain ⟨l1, vs, l2, l3⟩ := l
    exact ⟨⟨by rw [ha]; exact l1.1, by rw [hR]; exact l1.2⟩, vs, l2, l3.mono h⟩
  | dct _ =>
    obtain ⟨l1, o, ks, vs, l2, p, l3, l4⟩ := l
    exact ⟨⟨by rw [ha]; exact l1.1, by rw [hR]; exact l1.2⟩, o, ks, vs, l2, p, l3.mono h, l4.mono h⟩
  | ins _ _ => exact l
theorem LiveO.heap {H' : Hp} (e : H' a = H a) {m : MO} (l : LiveO c g H a m) : LiveO c g H' a m := by
  cases m with
  | dead => trivial
  | lst xs =>
    obtain ⟨l1, vs, l2, l3⟩ := l
    exact ⟨l1, vs, by rw [e]; exact l2, l3⟩
  | dct _ =>
    obtain ⟨l1, o, ks, vs, l2, p, l3⟩ := l
    exact ⟨l1, o, ks, vs, by rw [e]; exact l2, p, l3⟩
  | ins _ _ => exact l
theorem LiveO.some {m : MO} (l : LiveO c g H a m) (h : m.alive = true) : ∃ u, H a = Option.some u ∧ (g.F a = none ∧ g.R a = none) ∧ (∀ ps, u ≠ .tbl ps) ∧ ∀ q, u ≠ CodeO a q := by
  cases m with
  | dead => cases h
  | lst xs =>
    obtain ⟨l1, vs, l2, _⟩ := l
    exact ⟨_, l2, l1, (lst_no' (a := a)).1, (lst_no' (a := a)).2⟩
  | dct _ =>
    obtain ⟨l1, o, ks, vs, l2, p, _⟩ := l
    exact ⟨_, l2, l1, p.no.1, p.no.2⟩
  | ins _ _ => exact l.elim
theorem RelS.at_ (r : RelS c g S H) {i : Nat} {m : MO} (h : S[i]? = some m) : ∃ a, g.φ[i]? = some a := by
  obtain ⟨hi, _⟩ := List.getElem?_eq_some_iff.mp h
  exact ⟨g.φ[i]'(by rw [r.len]; exact hi), List.getElem?_eq_getElem _⟩

/-- a new object, frozen at once -/
def G.frz (g : G) (p : Addr) (o : HO) : G := ⟨upd g.F p o, g.φ, g.R⟩
theorem RelS.none_F (r : RelS c g S H) (h : H p = none) : g.F p = none := by
  cases e : g.F p with
  | none => rfl
  | some o => rw [r.sub _ _ e] at h; cases h
theorem G.le_frz (h : g.F p = none) : g.le (g.frz p o) := ⟨⟨fun b u e => by
  show upd g.F p o b = some u
  rw [upd_ne (ne_of_none e h)]
  exact e, [], by simp [G.frz]⟩, rfl⟩
theorem RelS.fresh (r : RelS c g S H) (h : H p = none) (ho : ∀ ps, o ≠ .tbl ps) : g.le (g.frz p o) ∧ RelS c (g.frz p o) S (upd H p o) := by
  have hF := r.none_F h
  have hl : g.le (g.frz p o) := G.le_frz hF
  refine ⟨hl, ⟨fun b u e => ?_, fun b u e => by rw [upd_ne (ne_of_none (r.rest _ _ e) h)]; exact r.rest _ _ e, fun b u e => by
    show upd g.F p o b = none
    rw [upd_ne (ne_of_none (r.rest _ _ e) h)]
    exact r.dis _ _ e, fun b ps e => ?_, r.len, fun i b m e1 e2 => ?_, r.inj, (tabs_upd r.tabs fun u e => by rw [h] at e; cases e), r.rtb⟩⟩
  · have e : upd g.F p o b = some u := e
    by_cases hb : b = p
    · subst hb; rw [upd_same] at e ⊢; exact e
    · rw [upd_ne hb] at e ⊢; exact r.sub _ _ e
  · have e : upd g.F p o b = some _ := e
    by_cases hb : b = p
    · subst hb; rw [upd_same] at e; cases e; exact ho _ rfl
    · rw [upd_ne hb] at e; exact r.ntb _ _ e
  · have l := r.live i b m e1 e2
    cases hm : m.alive with
    | false => cases m <;> first | trivial | cases hm
    | true =>
      obtain ⟨u, h1, h2, _⟩ := l.some hm
      have nb : b ≠ p := ne_of_none h1 h
      exact (l.mono hl.tolt (show upd g.F p o b = g.F b from upd_ne nb) rfl).heap (upd_ne nb)
/-- a new live list -/
def G.new (g : G) (p : Addr) : G := ⟨g.F, g.φ ++ [p], g.R⟩
theorem G.le_new : g.le (g.new p) := ⟨⟨fun _ _ e => e, [p], rfl⟩, rfl⟩
theorem RelS.alloc (r : RelS c g S H) (h : H p = none) (q : RepAll c g xs vs) : RelS c (g.new p) (S ++ [.lst xs]) (upd H p (.lst vs)) := by
  have hF := r.none_F h
  have old : ∀ {i : Nat} {b : Addr} {m : MO}, (g.φ ++ [p])[i]? = some b → (S ++ [MO.lst xs])[i]? = some m → (g.φ[i]? = some b ∧ S[i]? = some m) ∨ (i = S.length ∧ b = p ∧ m = .lst xs) := fun {i b m} e1 e2 => by
    by_cases hi : i < S.length
    · rw [List.getElem?_append_left (by rw [r.len]; exact hi)] at e1
      rw [List.getElem?_append_left hi] at e2
      exact .inl ⟨e1, e2⟩
    · rw [List.getElem?_append_right (by rw [r.len]; omega), r.len] at e1
      rw [List.getElem?_append_right (by omega)] at e2
      have hz : i = S.length := by
        by_cases hz : i - S.length = 0
        · omega
        · rw [List.getElem?_eq_none (by simp; omega)] at e2; cases e2
      subst hz
      simp at e1 e2
      exact .inr ⟨rfl, e1.symm, e2.symm⟩
  refine ⟨fun b u e => ?_, fun b u e => by rw [upd_ne (ne_of_none (r.rest _ _ e) h)]; exact r.rest _ _ e, r.dis, r.ntb, by simp [G.new, r.len], fun i b m e1 e2 => ?_, fun i j b m m' e1 e2 e3 e4 a1 a2 => ?_, (tabs_upd r.tabs fun u e => by rw [h] at e; cases e), r.rtb⟩
  · rw [upd_ne (ne_of_none (r.sub _ _ e) h)]
    exact r.sub _ _ e
  · rcases old e1 e2 with ⟨e1, e2⟩ | ⟨_, e1, e2⟩
    · have l := r.live i b m e1 e2
      cases hm : m.alive with
      | false => cases m <;> first | trivial | cases hm
      | true =>
        obtain ⟨u, h1, h2, _⟩ := l.some hm
        exact (l.mono G.le_new.tolt rfl rfl).heap (upd_ne (ne_of_none h1 h))
    · subst e1; subst e2
      refine ⟨⟨hF, ?_⟩, vs, upd_same, q.mono G.le_new.tolt⟩
      show g.R b = none
      cases e : g.R b with
      | none => rfl
      | some o => rw [r.rest _ _ e] at h; cases h
  · rcases old e1 e3 with ⟨e1, e3⟩ | ⟨f1, f2, f3⟩
    · rcases old e2 e4 with ⟨e2, e4⟩ | ⟨k1, k2, k3⟩
      · exact r.inj i j b m m' e1 e2 e3 e4 a1 a2
      · obtain ⟨u, h1, _⟩ := (r.live i b m e1 e3).some a1
        subst k2; rw [h] at h1; cases h1
    · rcases old e2 e4 with ⟨e2, e4⟩ | ⟨k1, k2, k3⟩
      · obtain ⟨u, h1, _⟩ := (r.live j b m' e2 e4).some a2
        subst f2; rw [h] at h1; cases h1
      · omega
theorem RelS.allocD (r : RelS c g S H) {kvs : List (D × D)} {ob : Obj} {ks ws : List V} (h : H p = none) (pp : DctP c p ob (kvs.map (·.1)) ks ws) (q : RepAll c g (kvs.map (·.1)) ks) (q2 : RepAll c g (kvs.map (·.2)) ws) : RelS c (g.new p) (S ++ [.dct kvs]) (upd H p (DX p ob)) := by
  have hF := r.none_F h
  have old : ∀ {i : Nat} {b : Addr} {m : MO}, (g.φ ++ [p])[i]? = some b → (S ++ [MO.dct kvs])[i]? = some m → (g.φ[i]? = some b ∧ S[i]? = some m) ∨ (i = S.length ∧ b = p ∧ m = .dct kvs) := fun {i b m} e1 e2 => by
    by_cases hi : i < S.length
    · rw [List.getElem?_append_left (by rw [r.len]; exact hi)] at e1
      rw [List.getElem?_append_left hi] at e2
      exact .inl ⟨e1, e2⟩
    · rw [List.getElem?_append_right (by rw [r.len]; omega), r.len] at e1
      rw [List.getElem?_append_right (by omega)] at e2
      have hz : i = S.length := by
        by_cases hz : i - S.length = 0
        · omega
        · rw [List.getElem?_eq_none (by simp; omega)] at e2; cases e2
      subst hz
      simp at e1 e2
      exact .inr ⟨rfl, e1.symm, e2.symm⟩
  refine ⟨fun b u e => ?_, fun b u e => by rw [upd_ne (ne_of_none (r.rest _ _ e) h)]; exact r.rest _ _ e, r.dis, r.ntb, by simp [G.new, r.len], fun i b m e1 e2 => ?_, fun i j b m m' e1 e2 e3 e4 a1 a2 => ?_, (tabs_upd r.tabs fun u e => by rw [h] at e; cases e), r.rtb⟩
  · rw [upd_ne (ne_of_none (r.sub _ _ e) h)]
    exact r.sub _ _ e
  · rcases old e1 e2 with ⟨e1, e2⟩ | ⟨_, e1, e2⟩
    · have l := r.live i b m e1 e2
      cases hm : m.alive with
      | false => cases m <;> first | trivial | cases hm
      | true =>
        obtain ⟨u, h1, h2, _⟩ := l.some hm
        exact (l.mono G.le_new.tolt rfl rfl).heap (upd_ne (ne_of_none h1 h))
    · subst e1; subst e2
      refine ⟨⟨hF, ?_⟩, ob, ks, ws, upd_same, pp, q.mono G.le_new.tolt, q2.mono G.le_new.tolt⟩
      show g.R b = none
      cases e : g.R b with
      | none => rfl
      | some o => rw [r.rest _ _ e] at h; cases h
  · rcases old e1 e3 with ⟨e1, e3⟩ | ⟨f1, f2, f3⟩
    · rcases old e2 e4 with ⟨e2, e4⟩ | ⟨k1, k2, k3⟩
      · exact r.inj i j b m m' e1 e2 e3 e4 a1 a2
      · obtain ⟨u, h1, _⟩ := (r.live i b m e1 e3).some a1
        subst k2; rw [h] at h1; cases h1
    · rcases old e2 e4 with ⟨e2, e4⟩ | ⟨k1, k2, k3⟩
      · obtain ⟨u, h1, _⟩ := (r.live j b m' e2 e4).some a2
        subst f2; rw [h] at h1; cases h1
      · omega
theorem G.new_at (r : RelS c g S H) : (g.new p).φ[S.length]? = some p := by
  show (g.φ ++ [p])[S.length]? = some p
  rw [← r.len]; simp
/-- a live list is written -/
theorem RelS.write (r : RelS c g S H) {ys : List D} {ws : List V} (h : g.φ[id]? = some a) (hs : S[id]? = some (.lst xs)) (q : RepAll c g ys ws) : RelS c g (S.set id (.lst ys)) (upd H a (.lst ws)) := by
  obtain ⟨hF, vs, hH, _⟩ := r.live id a _ h hs
  have hlt : id < S.length := (List.getElem?_eq_some_iff.mp hs).1
  have old : ∀ {i : Nat} {m : MO}, (S.set id (MO.lst ys))[i]? = some m → (i = id ∧ m = .lst ys) ∨ (i ≠ id ∧ S[i]? = some m) := fun {i m} e => by
    by_cases hi : id = i
    · subst hi; rw [List.getElem?_set_self hlt] at e; cases e; exact .inl ⟨rfl, rfl⟩
    · rw [List.getElem?_set_ne hi] at e; exact .inr ⟨Ne.symm hi, e⟩
  refine ⟨fun b u e => ?_, fun b u e => by rw [upd_ne (ne_of_none e hF.2)]; exact r.rest _ _ e, r.dis, r.ntb, by simp [r.len], fun i b m e1 e2 => ?_, fun i j b m m' e1 e2 e3 e4 a1 a2 => ?_, (tabs_upd r.tabs fun u e => by rw [hH] at e; cases e; exact lst_no'), r.rtb⟩
  · rw [upd_ne (ne_of_none e hF.1)]
    exact r.sub _ _ e
  · rcases old e2 with ⟨e3, e4⟩ | ⟨e3, e4⟩
    · subst e3; subst e4
      rw [h] at e1; cases e1
      exact ⟨hF, ws, upd_same, q⟩
    · have l := r.live i b m e1 e4
      cases hm : m.alive with
      | false => cases m <;> first | trivial | cases hm
      | true =>
        refine l.heap (upd_ne fun z => ?_)
        subst z
        exact e3 (r.inj i id b m _ e1 h e4 hs hm rfl)
  · have f : ∀ {i : Nat} {m : MO}, (S.set id (MO.lst ys))[i]? = some m → m.alive = true → ∃ m', S[i]? = some m' ∧ m'.alive = true := fun {i m} e hm => by
      rcases old e with ⟨e3, e4⟩ | ⟨_, e4⟩
      · subst e3; exact ⟨_, hs, rfl⟩
      · exact ⟨m, e4, hm⟩
    obtain ⟨n1, f1, f2⟩ := f e3 a1
    obtain ⟨n2, f3, f4⟩ := f e4 a2
    exact r.inj i j b n1 n2 e1 e2 f1 f3 f2 f4
/-- a live dict is written -/
theorem RelS.writeD (r : RelS c g S H) {kvs kvs' : List (D × D)} {ob : Obj} {ks ws : List V} (h : g.φ[id]? = some a) (hs : S[id]? = some (.dct kvs)) (pp : DctP c a ob (kvs'.map (·.1)) ks ws) (q : RepAll c g (kvs'.map (·.1)) ks) (q2 : RepAll c g (kvs'.map (·.2)) ws) : RelS c g (S.set id (.dct kvs')) (upd H a (DX a ob)) := by
  obtain ⟨hF, o0, ks0, vs0, hH, p0, _⟩ := r.live id a _ h hs
  have hlt : id < S.length := (List.getElem?_eq_some_iff.mp hs).1
  have old : ∀ {i : Nat} {m : MO}, (S.set id (MO.dct kvs'))[i]? = some m → (i = id ∧ m = .dct kvs') ∨ (i ≠ id ∧ S[i]? = some m) := fun {i m} e => by
    by_cases hi : id = i
    · subst hi; rw [List.getElem?_set_self hlt] at e; cases e; exact .inl ⟨rfl, rfl⟩
    · rw [List.getElem?_set_ne hi] at e; exact .inr ⟨Ne.symm hi, e⟩
  refine ⟨fun b u e => ?_, fun b u e => by rw [upd_ne (ne_of_none e hF.2)]; exact r.rest _ _ e, r.dis, r.ntb, by simp [r.len], fun i b m e1 e2 => ?_, fun i j b m m' e1 e2 e3 e4 a1 a2 => ?_, (tabs_upd r.tabs fun u e => by rw [hH] at e; cases e; exact p0.no), r.rtb⟩
  · rw [upd_ne (ne_of_none e hF.1)]
    exact r.sub _ _ e
  · rcases old e2 with ⟨e3, e4⟩ | ⟨e3, e4⟩
    · subst e3; subst e4
      rw [h] at e1; cases e1
      exact ⟨hF, ob, ks, ws, upd_same, pp, q, q2⟩
    · have l := r.live i b m e1 e4
      cases hm : m.alive with
      | false => cases m <;> first | trivial | cases hm
      | true =>
        refine l.heap (upd_ne fun z => ?_)
        subst z
        exact e3 (r.inj i id b m _ e1 h e4 hs hm rfl)
  · have f : ∀ {i : Nat} {m : MO}, (S.set id (MO.dct kvs'))[i]? = some m → m.alive = true → ∃ m', S[i]? = some m' ∧ m'.alive = true := fun {i m} e hm => by
      rcases old e with ⟨e3, e4⟩ | ⟨_, e4⟩
      · subst e3; exact ⟨_, hs, rfl⟩
      · exact ⟨m, e4, hm⟩
    obtain ⟨n1, f1, f2⟩ := f e3 a1
    obtain ⟨n2, f3, f4⟩ := f e4 a2
    exact r.inj i j b n1 n2 e1 e2 f1 f3 f2 f4
/-- a live list is frozen -/
theorem RelS.freeze (r : RelS c g S H) (h : g.φ[id]? = some a) (hs : S[id]? = some (.lst xs)) :
    ∃ vs, g.le (g.frz a (.lst vs)) ∧ RelS c (g.frz a (.lst vs)) (S.set id .dead) H ∧ Rep c (g.frz a (.lst vs)) (.lst xs) (.ref a) := by
  obtain ⟨hF, vs, hH, q⟩ := r.live id a _ h hs
  have hlt : id < S.length := (List.getElem?_eq_some_iff.mp hs).1
  have hl : g.le (g.frz a (.lst vs)) := G.le_frz hF.1
  have old : ∀ {i : Nat} {m : MO}, (S.set id MO.dead)[i]? = some m → m.alive = true → i ≠ id ∧ S[i]? = some m := fun {i m} e hm => by
    by_cases hi : id = i
    · subst hi; rw [List.getElem?_set_self hlt] at e; cases e; cases hm
    · rw [List.getElem?_set_ne hi] at e; exact ⟨Ne.symm hi, e⟩
  refine ⟨vs, hl, ⟨fun b u e => ?_, r.rest, fun b u e => by
    show upd g.F a _ b = none
    rw [upd_ne (ne_of_none e hF.2)]
    exact r.dis _ _ e, fun b ps e => ?_, by simp [G.frz, r.len], fun i b m e1 e2 => ?_, fun i j b m m' e1 e2 e3 e4 a1 a2 => ?_, r.tabs, r.rtb⟩, .lst (.inl (.inl upd_same)) (q.mono hl.tolt)⟩
  · have e : upd g.F a _ b = some u := e
    by_cases hb : b = a
    · subst hb; rw [upd_same] at e; rw [hH]; exact e
    · rw [upd_ne hb] at e; exact r.sub _ _ e
  · have e : upd g.F a _ b = some _ := e
    by_cases hb : b = a
    · subst hb; rw [upd_same] at e; cases e
    · rw [upd_ne hb] at e; exact r.ntb _ _ e
  · cases hm : m.alive with
    | false => cases m <;> first | trivial | cases hm
    | true =>
      obtain ⟨e3, e4⟩ := old e2 hm
      have l := r.live i b m e1 e4
      refine l.mono hl.tolt (show upd g.F a _ b = g.F b from upd_ne fun z => ?_) rfl
      subst z
      exact e3 (r.inj i id b m _ e1 h e4 hs hm rfl)
  · exact r.inj i j b m m' e1 e2 (old e3 a1).2 (old e4 a2).2 a1 a2

/-- a live dict is frozen -/
theorem RelS.freezeD (r : RelS c g S H) {kvs : List (D × D)} (h : g.φ[id]? = some a) (hs : S[id]? = some (.dct kvs)) :
    ∃ ob, g.le (g.frz a (DX a ob)) ∧ RelS c (g.frz a (DX a ob)) (S.set id .dead) H ∧ Rep c (g.frz a (DX a ob)) (.dct kvs) (.ref a) := by
  obtain ⟨hF, ob, ks, vs, hH, pp, q, q2⟩ := r.live id a _ h hs
  have hlt : id < S.length := (List.getElem?_eq_some_iff.mp hs).1
  have hl : g.le (g.frz a (DX a ob)) := G.le_frz hF.1
  have old : ∀ {i : Nat} {m : MO}, (S.set id MO.dead)[i]? = some m → m.alive = true → i ≠ id ∧ S[i]? = some m := fun {i m} e hm => by
    by_cases hi : id = i
    · subst hi; rw [List.getElem?_set_self hlt] at e; cases e; cases hm
    · rw [List.getElem?_set_ne hi] at e; exact ⟨Ne.symm hi, e⟩
  refine ⟨ob, hl, ⟨fun b u e => ?_, r.rest, fun b u e => by
    show upd g.F a _ b = none
    rw [upd_ne (ne_of_none e hF.2)]
    exact r.dis _ _ e, fun b ps e => ?_, by simp [G.frz, r.len], fun i b m e1 e2 => ?_, fun i j b m m' e1 e2 e3 e4 a1 a2 => ?_, r.tabs, r.rtb⟩, .dct (.inl upd_same) pp (q.mono hl.tolt) (q2.mono hl.tolt)⟩
  · have e : upd g.F a _ b = some u := e
    by_cases hb : b = a
    · subst hb; rw [upd_same] at e; rw [hH]; exact e
    · rw [upd_ne hb] at e; exact r.sub _ _ e
  · have e : upd g.F a _ b = some _ := e
    by_cases hb : b = a
    · subst hb; rw [upd_same] at e; exact pp.no.1 ps (Option.some.inj e)
    · rw [upd_ne hb] at e; exact r.ntb _ _ e
  · cases hm : m.alive with
    | false => cases m <;> first | trivial | cases hm
    | true =>
      obtain ⟨e3, e4⟩ := old e2 hm
      have l := r.live i b m e1 e4
      refine l.mono hl.tolt (show upd g.F a _ b = g.F b from upd_ne fun z => ?_) rfl
      subst z
      exact e3 (r.inj i id b m _ e1 h e4 hs hm rfl)
  · exact r.inj i j b m m' e1 e2 (old e3 a1).2 (old e4 a2).2 a1 a2

/-! ### a list kept aside -/
abbrev G.wR (g : G) (R : Hp) : G := ⟨g.F, g.φ, R⟩
theorem G.lt_wR {R : Hp} : g.lt (g.wR R) := ⟨fun _ _ e => e, [], by simp⟩
theorem G.wR_lt {R : Hp} : (g.wR R).lt g := ⟨fun _ _ e => e, [], by simp⟩
theorem RelS.unR (r : RelS c g S H) {R : Hp} (h : ∀ a o, R a = some o → g.R a = some o) : RelS c (g.wR R) S H := by
  refine ⟨r.sub, fun b u e => r.rest _ _ (h _ _ e), fun b u e => r.dis _ _ (h _ _ e), r.ntb, r.len, fun i b m e1 e2 => ?_, r.inj, r.tabs, fun a ps e => r.rtb a ps (h _ _ e)⟩
  have l := r.live i b m e1 e2
  cases m with
  | dead => trivial
  | lst xs =>
    obtain ⟨l1, vs, l2, l3⟩ := l
    refine ⟨⟨l1.1, ?_⟩, vs, l2, l3.mono G.lt_wR⟩
    cases e : R b with
    | none => exact e
    | some u => rw [h _ _ e] at l1; cases l1.2
  | dct _ =>
    obtain ⟨l1, o, ks, vs, l2, p, l3, l4⟩ := l
    refine ⟨⟨l1.1, ?_⟩, o, ks, vs, l2, p, l3.mono G.lt_wR, l4.mono G.lt_wR⟩
    cases e : R b with
    | none => exact e
    | some u => rw [h _ _ e] at l1; cases l1.2
  | ins _ _ => exact l
/-- what is aside is written anew (ho: it is new, or it is aside) -/
theorem RelS.aside (r : RelS c g S H) {D : Addr} {ws : List V} (ho : H D = none ∨ ∃ vs, g.R D = some (.lst vs)) : RelS c (g.wR (upd g.R D (.lst ws))) S (upd H D (.lst ws)) := by
  have hF : g.F D = none := by
    rcases ho with h | ⟨vs, h⟩
    · exact r.none_F h
    · exact r.dis _ _ h
  have hne : ∀ b u, H b = some u → g.R b = none → b ≠ D := fun b u e1 e2 z => by
    subst z
    rcases ho with h | ⟨vs, h⟩
    · rw [h] at e1; cases e1
    · rw [h] at e2; cases e2
  refine ⟨fun b u e => ?_, fun b u e => ?_, fun b u e => ?_, r.ntb, r.len, fun i b m e1 e2 => ?_, r.inj, (tabs_upd r.tabs fun u e => ?_), fun b ps e => ?_⟩
  · rw [upd_ne (ne_of_none e hF)]
    exact r.sub _ _ e
  · have e : upd g.R D (.lst ws) b = some u := e
    by_cases hb : b = D
    · subst hb; rw [upd_same] at e ⊢; exact e
    · rw [upd_ne hb] at e ⊢; exact r.rest _ _ e
  · have e : upd g.R D (.lst ws) b = some u := e
    by_cases hb : b = D
    · subst hb; exact hF
    · rw [upd_ne hb] at e; exact r.dis _ _ e
  · have l := r.live i b m e1 e2
    cases m with
    | dead => trivial
    | lst xs =>
      obtain ⟨l1, vs, l2, l3⟩ := l
      have nb := hne b _ l2 l1.2
      exact ⟨⟨l1.1, (upd_ne nb).trans l1.2⟩, vs, (upd_ne nb).trans l2, l3.mono G.lt_wR⟩
    | dct _ =>
      obtain ⟨l1, o, ks, vs, l2, p, l3, l4⟩ := l
      have nb := hne b _ l2 l1.2
      exact ⟨⟨l1.1, (upd_ne nb).trans l1.2⟩, o, ks, vs, (upd_ne nb).trans l2, p, l3.mono G.lt_wR, l4.mono G.lt_wR⟩
    | ins _ _ => exact l
  · rcases ho with h | ⟨vs, h⟩
    · rw [h] at e; cases e
    · rw [r.rest _ _ h] at e; cases e; exact lst_no'
  · have e : upd g.R D (.lst ws) b = some (.tbl ps) := e
    by_cases hb : b = D
    · subst hb; rw [upd_same] at e; cases e
    · rw [upd_ne hb] at e; exact r.rtb _ _ e
/-- what is aside becomes frozen -/
theorem RelS.outF (r : RelS c g S H) {D : Addr} {ws : List V} {R : Hp} (h : g.R D = some (.lst ws)) (hR : ∀ a o, R a = some o → g.R a = some o) (hD : R D = none) : (g.wR R).le ((g.wR R).frz D (.lst ws)) ∧ RelS c ((g.wR R).frz D (.lst ws)) S H := by
  have hF := r.dis _ _ h
  have hl : (g.wR R).le ((g.wR R).frz D (.lst ws)) := G.le_frz hF
  have r' := r.unR hR
  refine ⟨hl, ⟨fun b u e => ?_, r'.rest, fun b u e => ?_, fun b ps e => ?_, r'.len, fun i b m e1 e2 => ?_, r'.inj, r'.tabs, r'.rtb⟩⟩
  · have e : upd g.F D _ b = some u := e
    by_cases hb : b = D
    · subst hb; rw [upd_same] at e; cases e; exact r.rest _ _ h
    · rw [upd_ne hb] at e; exact r.sub _ _ e
  · show upd g.F D _ b = none
    have e2 : R b = some u := e
    rw [upd_ne (fun z => by subst z; rw [hD] at e2; cases e2)]
    exact r'.dis _ _ e
  · have e : upd g.F D _ b = some _ := e
    by_cases hb : b = D
    · subst hb; rw [upd_same] at e; cases e
    · rw [upd_ne hb] at e; exact r.ntb _ _ e
  · have l0 := r.live i b m e1 e2
    have l := r'.live i b m e1 e2
    cases hm : m.alive with
    | false => cases m <;> first | trivial | cases hm
    | true =>
      obtain ⟨u, h1, h2, _⟩ := l0.some hm
      exact l.mono hl.tolt (show upd g.F D _ b = g.F b from upd_ne fun z => by subst z; rw [h] at h2; cases h2.2) rfl
/-- what is aside becomes live -/
theorem RelS.outL (r : RelS c g S H) {p : Addr} {ws : List V} {ds : List D} {R : Hp} (h : g.R p = some (.lst ws)) (hR : ∀ a o, R a = some o → g.R a = some o) (hD : R p = none) (q : RepAll c g ds ws) : RelS c ((g.wR R).new p) (S ++ [.lst ds]) H := by
  have hF := r.dis _ _ h
  have r' := r.unR hR
  have old : ∀ {i : Nat} {b : Addr} {m : MO}, (g.φ ++ [p])[i]? = some b → (S ++ [MO.lst ds])[i]? = some m → (g.φ[i]? = some b ∧ S[i]? = some m) ∨ (i = S.length ∧ b = p ∧ m = .lst ds) := fun {i b m} e1 e2 => by
    by_cases hi : i < S.length
    · rw [List.getElem?_append_left (by rw [r.len]; exact hi)] at e1
      rw [List.getElem?_append_left hi] at e2
      exact .inl ⟨e1, e2⟩
    · rw [List.getElem?_append_right (by rw [r.len]; omega), r.len] at e1
      rw [List.getElem?_append_right (by omega)] at e2
      have hz : i = S.length := by
        by_cases hz : i - S.length = 0
        · omega
        · rw [List.getElem?_eq_none (by simp; omega)] at e2; cases e2
      subst hz
      simp at e1 e2
      exact .inr ⟨rfl, e1.symm, e2.symm⟩
  have notD : ∀ {i : Nat} {b : Addr} {m : MO}, g.φ[i]? = some b → S[i]? = some m → m.alive = true → b ≠ p := fun {i b m} e1 e2 hm z => by
    obtain ⟨u, _, h2, _⟩ := (r.live i b m e1 e2).some hm
    subst z; rw [h] at h2; cases h2.2
  refine ⟨r'.sub, r'.rest, r'.dis, r'.ntb, by simp [G.new, r.len], fun i b m e1 e2 => ?_, fun i j b m m' e1 e2 e3 e4 a1 a2 => ?_, r'.tabs, r'.rtb⟩
  · rcases old e1 e2 with ⟨e1, e2⟩ | ⟨_, e1, e2⟩
    · exact (r'.live i b m e1 e2).mono G.le_new.tolt rfl rfl
    · subst e1; subst e2
      exact ⟨⟨hF, hD⟩, ws, r.rest _ _ h, (q.mono G.lt_wR).mono G.le_new.tolt⟩
  · rcases old e1 e3 with ⟨e1, e3⟩ | ⟨f1, f2, f3⟩
    · rcases old e2 e4 with ⟨e2, e4⟩ | ⟨k1, k2, k3⟩
      · exact r.inj i j b m m' e1 e2 e3 e4 a1 a2
      · exact (notD e1 e3 a1 k2).elim
    · rcases old e2 e4 with ⟨e2, e4⟩ | ⟨k1, k2, k3⟩
      · exact (notD e2 e4 a2 f2).elim
      · omega

/-! ### a table grows -/
theorem RelS.extN (r : RelS c g S H) {H1 : Hp} (e : ExtN H H1) (t : Tabs c.tbl H1) : RelS c g S H1 := by
  refine ⟨fun a o h => e a o (r.sub a o h) fun ps z => ?_, fun a o h => e a o (r.rest a o h) fun ps z => ?_, r.dis, r.ntb, r.len, fun i a m e1 e2 => ?_, r.inj, t, r.rtb⟩
  · subst z; exact r.ntb _ _ h
  · subst z; exact r.rtb _ _ h
  · have l := r.live i a m e1 e2
    cases m with
    | dead => trivial
    | lst xs =>
      obtain ⟨l1, vs, l2, l3⟩ := l
      exact ⟨l1, vs, e a _ l2 fun ps => lst_no.1 ps, l3⟩
    | dct _ =>
      obtain ⟨l1, o, ks, vs, l2, p, l3⟩ := l
      exact ⟨l1, o, ks, vs, e a _ l2 fun ps => p.no.1 ps, p, l3⟩
    | ins _ _ => exact l
/-! ### views -/
theorem rep_seq {d : D} {v : V} (r : RelS c g S H) (q : Rep c g d v) (h : seqD S d = some xs) : ∃ a vs, v = .ref a ∧ RepAll c g xs vs ∧ (SqL c.K H a vs ∨ SqT c.K H a vs) := by
  cases q with
  | tup s t => cases h; exact ⟨_, _, rfl, t, .inr (sqT_mono r.sub s)⟩
  | lst s t => cases h; exact ⟨_, _, rfl, t, .inl (s.mono r.sub).sq⟩
  | @obj i a e =>
    simp only [seqD] at h
    split at h
    · rename_i ys hs
      cases h
      obtain ⟨_, vs, h1, h2⟩ := r.live i a _ e hs
      exact ⟨a, vs, rfl, h2, .inl (SqL.of h1)⟩
    · cases h
  | _ => cases h
theorem rep_lst {d : D} {v : V} (r : RelS c g S H) (q : Rep c g d v) (h : lstD S d = some xs) : ∃ a vs, v = .ref a ∧ RepAll c g xs vs ∧ LsO c.K H a vs := by
  cases q with
  | lst s t => cases h; exact ⟨_, _, rfl, t, s.mono r.sub⟩
  | @obj i a e =>
    simp only [lstD] at h
    split at h
    · rename_i ys hs
      cases h
      obtain ⟨_, vs, h1, h2⟩ := r.live i a _ e hs
      exact ⟨a, vs, rfl, h2, .inl (.inl h1)⟩
    · cases h
  | _ => cases h
theorem rep_tup {v : V} (r : RelS c g S H) (q : Rep c g (.tup xs) v) : ∃ a vs, v = .ref a ∧ RepAll c g xs vs ∧ SqT c.K H a vs := by
  cases q with
  | tup s t => exact ⟨_, _, rfl, t, sqT_mono r.sub s⟩
end
end FT
end

section
set_option Elab.async false
set_option linter.all false
set_option maxRecDepth 100000
set_option autoImplicit false
/-! FT.Sound3: data read off the heap; ==, in, repr. -/
namespace FT
open PySem L2 LamX

/-! ### data and PyData -/
mutual
theorem lay_of_ok : ∀ d : D, okT d = true → (pyT d).canLay0 = true ∧ isT d = true
  | .non, _ => by simp [pyT, PyData.canLay0, isT]
  | .bl _, _ => by simp [pyT, PyData.canLay0, isT]
  | .int _, _ => by simp [pyT, PyData.canLay0, isT]
  | .str s, h => by simpa [pyT, PyData.canLay0, isT, okT] using h
  | .tup xs, h => by
    have := lays_of_ok xs (by simpa [okT] using h)
    simpa [pyT, PyData.canLay0, isT] using this
  | .lst xs, h => by
    have := lays_of_ok xs (by simpa [okT] using h)
    simpa [pyT, PyData.canLay0, isT] using this
  | .dct _, h => by simp [okT] at h
  | .obj _, h => by simp [okT] at h
  | .ins _ _, h => by simp [okT] at h
  | .exc _ _, h => by simp [okT] at h
  | .fn _, h => by simp [okT] at h
theorem lays_of_ok : ∀ ds : List D, okTs ds = true → PyData.canLayAll0 (pyTs ds) = true ∧ isTs ds = true
  | [], _ => by simp [pyTs, PyData.canLayAll0, isTs]
  | d :: ds, h => by
    have h' : okT d = true ∧ okTs ds = true := by simpa [okTs] using h
    obtain ⟨a1, a2⟩ := lay_of_ok d h'.1
    obtain ⟨b1, b2⟩ := lays_of_ok ds h'.2
    simp [pyTs, PyData.canLayAll0, isTs, a1, a2, b1, b2]
end
mutual
theorem dep_py : ∀ d : D, (pyT d).depth ≤ depT d
  | .non => by simp [pyT, PyData.depth]
  | .bl _ => by simp [pyT, PyData.depth]
  | .int _ => by simp [pyT, PyData.depth]
  | .str s => by simp [pyT, PyData.depth]
  | .tup xs => by have := dep_pys xs; simp [pyT, PyData.depth, depT]; exact this
  | .lst xs => by have := dep_pys xs; simp [pyT, PyData.depth, depT]; exact this
  | .dct kvs => by have := dep_pyk kvs; simp [pyT, PyData.depth, depT]; exact this
  | .obj _ => by simp [pyT, PyData.depth]
  | .ins _ _ => by simp [pyT, PyData.depth]
  | .exc _ _ => by simp [pyT, PyData.depth]
  | .fn _ => by simp [pyT, PyData.depth]
theorem dep_pys : ∀ ds : List D, PyData.depthAll (pyTs ds) ≤ depTs ds
  | [] => by simp [pyTs, PyData.depthAll]
  | d :: ds => by
    have a := dep_py d
    have b := dep_pys ds
    simp only [pyTs, PyData.depthAll, depTs]
    omega
theorem dep_pyk : ∀ ds : List (D × D), PyData.depthKv (pyTk ds) ≤ depTk ds
  | [] => by simp [pyTk, PyData.depthKv]
  | (k, v) :: ds => by
    have a := dep_py k
    have a2 := dep_py v
    have b := dep_pyk ds
    simp only [pyTk, PyData.depthKv, depTk]
    omega
end
mutual
theorem eqv_py : ∀ a b : D, okT a = true → okT b = true → PyData.eqv (pyT a) (pyT b) = eqT a b
  | .tup xs, .tup ys, h, k => by
    have := eqv_pys xs ys (by simpa [okT] using h) (by simpa [okT] using k)
    simpa [pyT, PyData.eqv, eqT] using this
  | .lst xs, .lst ys, h, k => by
    have := eqv_pys xs ys (by simpa [okT] using h) (by simpa [okT] using k)
    simpa [pyT, PyData.eqv, eqT] using this
  | .dct _, _, h, _ => by simp [okT] at h
  | .obj _, _, h, _ => by simp [okT] at h
  | .ins _ _, _, h, _ => by simp [okT] at h
  | .exc _ _, _, h, _ => by simp [okT] at h
  | .fn _, _, h, _ => by simp [okT] at h
  | .non, b, _, k => by cases b <;> simp_all [pyT, PyData.eqv, eqT, okT]
  | .bl _, b, _, k => by cases b <;> simp_all [pyT, PyData.eqv, eqT, okT]
  | .int _, b, _, k => by cases b <;> simp_all [pyT, PyData.eqv, eqT, okT]
  | .str _, b, _, k => by cases b <;> simp_all [pyT, PyData.eqv, eqT, okT]
  | .tup _, .non, _, k => by simp [pyT, PyData.eqv, eqT]
  | .tup _, .bl _, _, k => by simp [pyT, PyData.eqv, eqT]
  | .tup _, .int _, _, k => by simp [pyT, PyData.eqv, eqT]
  | .tup _, .str _, _, k => by simp [pyT, PyData.eqv, eqT]
  | .tup _, .lst _, _, k => by simp [pyT, PyData.eqv, eqT]
  | .lst _, .non, _, k => by simp [pyT, PyData.eqv, eqT]
  | .lst _, .bl _, _, k => by simp [pyT, PyData.eqv, eqT]
  | .lst _, .int _, _, k => by simp [pyT, PyData.eqv, eqT]
  | .lst _, .str _, _, k => by simp [pyT, PyData.eqv, eqT]
  | .lst _, .tup _, _, k => by simp [pyT, PyData.eqv, eqT]
  | _, .dct _, _, h => by simp [okT] at h
  | _, .obj _, _, h => by simp [okT] at h
  | _, .ins _ _, _, h => by simp [okT] at h
  | _, .exc _ _, _, h => by simp [okT] at h
  | _, .fn _, _, h => by simp [okT] at h
theorem eqv_pys : ∀ a b : List D, okTs a = true → okTs b = true → PyData.eqvAll (pyTs a) (pyTs b) = eqTs a b
  | [], [], _, _ => by simp [pyTs, PyData.eqvAll, eqTs]
  | [], _ :: _, _, _ => by simp [pyTs, PyData.eqvAll, eqTs]
  | _ :: _, [], _, _ => by simp [pyTs, PyData.eqvAll, eqTs]
  | x :: xs, y :: ys, h, k => by
    have h' : okT x = true ∧ okTs xs = true := by simpa [okTs] using h
    have k' : okT y = true ∧ okTs ys = true := by simpa [okTs] using k
    simp only [pyTs, PyData.eqvAll, eqTs, eqv_py x y h'.1 k'.1, eqv_pys xs ys h'.2 k'.2]
end

theorem DctP.empty {c : Cfg} {a : Addr} {o : Obj} {ks vs : List V} (p : DctP c a o [] ks vs) : ∃ es ep, o.data = .dict es ep ∧ es.toList = [] := by
  obtain ⟨es, ep, e, h⟩ := p.ds
  refine ⟨es, ep, e, ?_⟩
  rcases h with ⟨kv, ss, _, hp, _, h1, h2, _⟩ | ⟨xs, h1, _, h2, _⟩
  · have : ss = [] := by cases ss with
      | nil => rfl
      | cons _ _ => cases h1
    subst this
    have : kv = [] := by cases kv with
      | nil => rfl
      | cons _ _ => cases h2
    subst this
    generalize es.toList = l at hp
    cases hp
    rfl
  · have : xs = [] := by cases xs with
      | nil => rfl
      | cons _ _ => cases h2
    subst this
    exact h1
/-! ### read off the heap -/
section
variable {X : L2.Cx} {pins : List (Addr × Obj)} {σ : L2.St} {H : Hp} {s : Shared} {c : Cfg} {g : G} {S : Store}
theorem dct_at (I : Inv X pins σ H s) (hK : X.K = c.K) (r : RelS c g S H) {a : Addr} {o : Obj} (e : g.F a = some (DX a o) ∨ c.K.lookup a = some o) : s.heap.get? a = some o := by
  rcases e with e | e
  · exact (show ObjOk X.prog X.w H s.heap a (DX a o) from I.hok _ _ (r.sub _ _ e)).1
  · exact I.kIn a o (by rw [hK]; exact e)
mutual
theorem reads_w (I : Inv X pins σ H s) (hK : X.K = c.K) (r : RelS c g S H) {f : Nat → D} (hf : ∀ id v u, Rep c g (.obj id) v → RelV v u → isT (f id) = true → ∃ as, Reads s.heap u (pyT (f id)) as ∧ (hasL (f id) = false → sysModules ∉ as)) :
    ∀ (d : D) (v : V) (u : Value), Rep c g d v → RelV v u → isT (resW f d) = true → ∃ as, Reads s.heap u (pyT (resW f d)) as ∧ (hasL (resW f d) = false → (sysModules ∉ as))
  | .non, _, _, q, ru, _ => by cases q; cases ru; exact ⟨_, .none, fun _ => by simp⟩
  | .bl b, _, _, q, ru, _ => by cases q; cases ru; exact ⟨_, .bool b, fun _ => by simp⟩
  | .int i, _, _, q, ru, _ => by cases q; obtain ⟨t, rfl⟩ := ru; exact ⟨_, .int i t, fun _ => by simp⟩
  | .str x, _, _, q, ru, _ => by cases q; obtain ⟨t, rfl⟩ := ru; exact ⟨_, .str x t, fun _ => by simp⟩
  | .tup ds, _, _, .tup hs ha, ru, h => by
    cases ru
    obtain ⟨its, rv, ⟨o, ho, hc, n, hd⟩, _⟩ := I.tuple (by rw [hK]; exact sqT_mono r.sub hs)
    obtain ⟨as, hr, hn⟩ := reads_ws I hK r hf ds _ its ha rv (by simpa [resW, isT] using h)
    refine ⟨as, by simpa [resW, pyT] using Reads.tuple ho hc hd hr, fun hl => hn (by simpa [resW, hasL] using hl)⟩
  | .lst ds, _, _, .lst hs ha, ru, h => by
    cases ru
    obtain ⟨its, rv, ⟨o, n, ho, hc, _, hd⟩, _⟩ := I.list (by rw [hK]; exact (hs.mono r.sub).sq)
    obtain ⟨as, hr, hn⟩ := reads_ws I hK r hf ds _ its ha rv (by simpa [resW, isT] using h)
    exact ⟨_, by simpa [resW, pyT] using Reads.list ho hc hd hr, fun hl => by simp [resW, hasL] at hl⟩
  | .dct kvs, _, _, .dct (a := a) (o := o) e p k v, ru, h => by
    cases ru
    have hn : kvs = [] := by
      cases kvs with
      | nil => rfl
      | cons x y => obtain ⟨x1, x2⟩ := x; simp [resW, resWk, isT] at h
    subst hn
    have e1 := dct_at I hK r e
    have e2 := p.ex
    have hsys := p.sys
    obtain ⟨es, ep, e3, he⟩ := p.empty
    refine ⟨_, by simpa [resW, resWk, pyT, pyTk] using Reads.dict (kvs := []) e1 e2.1 e3 (by rw [he]; exact .nil) (by rw [he]; exact .nil), fun _ => ?_⟩
    simp only [List.append_nil, List.mem_singleton]
    exact fun z => by rw [← z] at hsys; simp at hsys
  | .obj id, _, _, q, ru, h => by
    obtain ⟨as, h1, h2⟩ := hf id _ _ q ru (by simpa [resW] using h)
    exact ⟨as, by simpa [resW] using h1, by simpa [resW] using h2⟩
  | .ins _ _, _, _, _, _, h => by simp [resW, isT] at h
  | .exc _ _, _, _, _, _, h => by simp [resW, isT] at h
  | .fn _, _, _, _, _, h => by simp [resW, isT] at h
theorem reads_ws (I : Inv X pins σ H s) (hK : X.K = c.K) (r : RelS c g S H) {f : Nat → D} (hf : ∀ id v u, Rep c g (.obj id) v → RelV v u → isT (f id) = true → ∃ as, Reads s.heap u (pyT (f id)) as ∧ (hasL (f id) = false → sysModules ∉ as)) :
    ∀ (ds : List D) (vs : List V) (us : List Value), RepAll c g ds vs → Vals vs us → isTs (resWs f ds) = true → ∃ as, ReadsAll s.heap us (pyTs (resWs f ds)) as ∧ (hasLs (resWs f ds) = false → (sysModules ∉ as))
  | [], _, _, .nil, ru, _ => by cases ru; exact ⟨_, .nil, fun _ => by simp⟩
  | d :: ds, _, _, .cons q qs, ru, h => by
    cases ru with
    | cons r1 r2 =>
      have h' : isT (resW f d) = true ∧ isTs (resWs f ds) = true := by simpa [resWs, isTs] using h
      obtain ⟨as, a1, a2⟩ := reads_w I hK r hf d _ _ q r1 h'.1
      obtain ⟨bs, b1, b2⟩ := reads_ws I hK r hf ds _ _ qs r2 h'.2
      refine ⟨_, by simpa [resWs, pyTs] using ReadsAll.cons a1 b1, fun hl => ?_⟩
      have hl' : hasL (resW f d) = false ∧ hasLs (resWs f ds) = false := by simpa [resWs, hasLs] using hl
      simp only [List.mem_append, not_or]
      exact ⟨a2 hl'.1, b2 hl'.2⟩
end

theorem reads_n (I : Inv X pins σ H s) (hK : X.K = c.K) (r : RelS c g S H) : ∀ (n : Nat) (d : D) (v : V) (u : Value), Rep c g d v → RelV v u → isT (resN S n d) = true →
    ∃ as, Reads s.heap u (pyT (resN S n d)) as ∧ (hasL (resN S n d) = false → sysModules ∉ as)
  | 0, d, v, u, q, ru, h => reads_w I hK r (f := .obj) (fun id v u _ _ h => by simp [isT] at h) d v u q ru h
  | n + 1, d, v, u, q, ru, h => by
    refine reads_w I hK r (f := fun id => match S[id]? with
      | some (.lst xs) => .lst (xs.map (resN S n))
      | _ => .obj id) (fun id v u q ru h => ?_) d v u q ru h
    cases q with
    | @obj _ a e =>
      obtain ⟨m, hm⟩ : ∃ m, S[id]? = some m := by
        obtain ⟨hi, _⟩ := List.getElem?_eq_some_iff.mp e
        exact ⟨S[id]'(by rw [← r.len]; exact hi), List.getElem?_eq_getElem _⟩
      have l := r.live id a m e hm
      cases m with
      | dead => simp [hm, isT] at h
      | dct _ => simp [hm, isT] at h
      | ins _ _ => exact l.elim
      | lst xs =>
        obtain ⟨_, vs, hH, ra⟩ := l
        cases ru
        simp only [hm] at h ⊢
        obtain ⟨its, rv, ⟨o, k, ho, hc, _, hd⟩, _⟩ := I.list (SqL.of hH)
        have go : ∀ (xs : List D) (vs : List V) (us : List Value), RepAll c g xs vs → Vals vs us → isTs (xs.map (resN S n)) = true → ∃ as, ReadsAll s.heap us (pyTs (xs.map (resN S n))) as := by
          intro xs
          induction xs with
          | nil => intro vs us ra rv _; cases ra; cases rv; exact ⟨_, .nil⟩
          | cons x xs ih =>
            intro vs us ra rv h
            cases ra with
            | cons q qs =>
              cases rv with
              | cons r1 r2 =>
                have h' : isT (resN S n x) = true ∧ isTs (xs.map (resN S n)) = true := by simpa [isTs] using h
                obtain ⟨as, a1, _⟩ := reads_n I hK r n x _ _ q r1 h'.1
                obtain ⟨bs, b1⟩ := ih _ _ qs r2 h'.2
                exact ⟨_, by simpa [pyTs] using ReadsAll.cons a1 b1⟩
        obtain ⟨as, h4⟩ := go xs vs its ra rv (by simpa [isT] using h)
        exact ⟨_, by simpa [pyT] using Reads.list ho hc hd h4, fun hl => by simp [hasL] at hl⟩
theorem reads_d (I : Inv X pins σ H s) (hK : X.K = c.K) (r : RelS c g S H) {d : D} {v : V} {u : Value} (q : Rep c g d v) (ru : RelV v u) (h : isT (resD S d) = true) :
    ∃ as, Reads s.heap u (pyT (resD S d)) as ∧ (hasL (resD S d) = false → sysModules ∉ as) := reads_n I hK r 3 d v u q ru h
theorem readsAll_d (I : Inv X pins σ H s) (hK : X.K = c.K) (r : RelS c g S H) : ∀ {ds : List D} {vs : List V} {us : List Value}, RepAll c g ds vs → Vals vs us → fitAll S ds = true →
    ∃ as, ReadsAll s.heap us (ds.map fun d => pyT (resD S d)) as ∧ PyData.canLayAll0 (ds.map fun d => pyT (resD S d)) = true ∧ PyData.depthAll (ds.map fun d => pyT (resD S d)) ≤ 64
  | [], _, _, .nil, ru, _ => by cases ru; exact ⟨_, .nil, by simp [PyData.canLayAll0], by simp [PyData.depthAll]⟩
  | d :: ds, _, _, .cons q qs, ru, h => by
    cases ru with
    | cons r1 r2 =>
      have h' : fitT (resD S d) = true ∧ fitAll S ds = true := by simpa [fitAll] using h
      obtain ⟨f1, f2⟩ : okT (resD S d) = true ∧ depT (resD S d) ≤ 64 := by simpa [fitT] using h'.1
      obtain ⟨l1, l2⟩ := lay_of_ok _ f1
      obtain ⟨as, a1, _⟩ := reads_d I hK r q r1 l2
      obtain ⟨bs, b1, b2, b3⟩ := readsAll_d I hK r qs r2 h'.2
      refine ⟨_, .cons a1 b1, by simp [PyData.canLayAll0, l1]; simpa using b2, ?_⟩
      have := dep_py (resD S d)
      simp only [List.map_cons, PyData.depthAll]
      omega
theorem fit_lay {d : D} (h : fitT d = true) : okT d = true ∧ (pyT d).canLay0 = true ∧ isT d = true ∧ (pyT d).depth ≤ 64 := by
  obtain ⟨f1, f2⟩ : okT d = true ∧ depT d ≤ 64 := by simpa [fitT] using h
  obtain ⟨l1, l2⟩ := lay_of_ok _ f1
  exact ⟨f1, l1, l2, Nat.le_trans (dep_py d) f2⟩
end
end FT
end

section
set_option Elab.async false
set_option linter.all false
set_option maxRecDepth 100000
set_option autoImplicit false
/-! FT.Dct: dicts, looked into and written. -/
namespace FT
open PySem L2 LamX

/-- X is a context over c -/
structure OverC (c : Cfg) (X : L2.Cx) : Prop where
  P : X.prog = c.P
  w : X.w = c.w
  K : X.K = c.K
  mg : X.mg = c.mg
  base : X.base = c.base

mutual
theorem dep_key : ∀ d : D, (keyT d).depth ≤ depT d
  | .tup xs => by
    have := dep_keys xs
    simp only [keyT, NestedKey.depth, depT]
    omega
  | .non | .bl _ | .int _ | .str _ | .lst _ | .dct _ | .obj _ | .ins _ _ | .exc _ _ | .fn _ => by simp [keyT, NestedKey.depth]
theorem dep_keys : ∀ ds : List D, NestedKey.depthAll (keyTs ds) ≤ depTs ds
  | [] => by simp [keyTs, NestedKey.depthAll]
  | d :: ds => by
    have a := dep_key d
    have b := dep_keys ds
    simp only [keyTs, NestedKey.depthAll, depTs]
    omega
end
mutual
theorem eqT_key : ∀ x y : D, hshT x = true → hshT y = true → eqT x y = decide (keyT x = keyT y)
  | .non, y, _, hy => by cases y <;> simp_all [hshT, eqT, keyT]
  | .bl a, y, _, hy => by
    rw [Bool.eq_iff_iff, decide_eq_true_iff]
    cases y <;> simp [hshT] at hy <;> first | (cases a <;> simp [eqT, keyT]; done) | (rename_i b; cases a <;> cases b <;> simp [eqT, keyT])
  | .int a, y, _, hy => by
    rw [Bool.eq_iff_iff, decide_eq_true_iff]
    cases y <;> simp [hshT] at hy <;> first | (simp [eqT, keyT]; done) | (rename_i b; cases b <;> simp [eqT, keyT])
  | .str a, y, _, hy => by
    rw [Bool.eq_iff_iff, decide_eq_true_iff]
    cases y <;> simp [hshT] at hy <;> simp [eqT, keyT]
  | .tup xs, y, hx, hy => by
    cases y with
    | tup ys =>
      have := eqT_keys xs ys (by simpa [hshT] using hx) (by simpa [hshT] using hy)
      simp only [eqT, keyT, NestedKey.tup.injEq]
      exact this
    | _ => simp_all [hshT, eqT, keyT]
  | .lst _, _, h, _ | .dct _, _, h, _ | .obj _, _, h, _ | .ins _ _, _, h, _ | .exc _ _, _, h, _ | .fn _, _, h, _ => by simp [hshT] at h
theorem eqT_keys : ∀ xs ys : List D, hshTs xs = true → hshTs ys = true → eqTs xs ys = decide (keyTs xs = keyTs ys)
  | [], [], _, _ => by simp [eqTs, keyTs]
  | [], _ :: _, _, _ => by simp [eqTs, keyTs]
  | _ :: _, [], _, _ => by simp [eqTs, keyTs]
  | x :: xs, y :: ys, h, k => by
    have h' : hshT x = true ∧ hshTs xs = true := by simpa [hshTs] using h
    have k' : hshT y = true ∧ hshTs ys = true := by simpa [hshTs] using k
    simp only [eqTs, keyTs, List.cons.injEq, eqT_key x y h'.1 k'.1, eqT_keys xs ys h'.2 k'.2, Bool.decide_and]
end

section
variable {X : L2.Cx} {pins : List (Addr × Obj)} {σ : L2.St} {H : Hp} {s : Shared} {c : Cfg} {g : G} {S : Store}
mutual
theorem nest_d (I : Inv X pins σ H s) (hK : X.K = c.K) (r : RelS c g S H) : ∀ (d : D) (v : V) (u : Value), Rep c g d v → RelV v u → hshT d = true → NestedIs s.heap (keyT d) u
  | .non, _, _, q, ru, _ => by cases q; cases ru; exact .none
  | .bl b, _, _, q, ru, _ => by cases q; cases ru; exact .bool rfl
  | .int i, _, _, q, ru, _ => by cases q; obtain ⟨t, rfl⟩ := ru; exact .int _ _
  | .str x, _, _, q, ru, _ => by cases q; obtain ⟨t, rfl⟩ := ru; exact .text _ _
  | .tup ds, _, _, .tup hs ha, ru, h => by
    cases ru
    obtain ⟨its, rv, ⟨o, ho, hc, n, hd⟩, _⟩ := I.tuple (by rw [hK]; exact sqT_mono r.sub hs)
    exact .tup ho hc hd (nest_ds I hK r ds _ its ha rv (by simpa [hshT] using h))
  | .lst _, _, _, _, _, h | .dct _, _, _, _, _, h | .obj _, _, _, _, _, h | .ins _ _, _, _, _, _, h | .exc _ _, _, _, _, _, h | .fn _, _, _, _, _, h => by simp [hshT] at h
theorem nest_ds (I : Inv X pins σ H s) (hK : X.K = c.K) (r : RelS c g S H) : ∀ (ds : List D) (vs : List V) (us : List Value), RepAll c g ds vs → Vals vs us → hshTs ds = true → NestedAll s.heap (keyTs ds) us
  | [], _, _, .nil, ru, _ => by cases ru; exact .nil
  | d :: ds, _, _, .cons q qs, ru, h => by
    cases ru with
    | cons r1 r2 =>
      have h' : hshT d = true ∧ hshTs ds = true := by simpa [hshTs] using h
      exact .cons (nest_d I hK r d _ _ q r1 h'.1) (nest_ds I hK r ds _ _ qs r2 h'.2)
end
end

/-! ### entries -/
/-- a text as a key -/
def fS : D → Key
  | .str z => .inr z
  | _ => .inl 0
def vS : D → V
  | .str z => .str z
  | _ => .non
inductive Al (c : Cfg) (g : G) {K : Type} (f : D → K) (B : D → Bool) : List (D × D) → List (K × Value) → Prop
  | nil : Al c g f B [] []
  | cons {d e : D} {v : V} {u : Value} {t : List (D × D)} {t' : List (K × Value)} : B d = true → Rep c g e v → RelV v u → Al c g f B t t' → Al c g f B ((d, e) :: t) ((f d, u) :: t')
/-- by eqT two keys are one just where f says so -/
def Law {K : Type} (f : D → K) (B : D → Bool) : Prop := ∀ x y, B x = true → B y = true → (eqT x y = true ↔ f x = f y)
theorem law_S : Law fS isStrD := fun x y hx hy => by
  cases x <;> simp [isStrD] at hx
  cases y <;> simp [isStrD] at hy
  simp [eqT, fS]
theorem hsh_of {d : D} (h : keyB d = true) : hshT d = true ∧ depT d ≤ 8 ∧ ∃ xs, d = .tup xs := by
  unfold keyB at h
  simp only [Bool.and_eq_true, decide_eq_true_eq] at h
  refine ⟨h.1.2, h.2, ?_⟩
  cases d <;> simp [isTupD] at h
  exact ⟨_, rfl⟩
theorem law_T : Law keyT keyB := fun x y hx hy => by
  rw [eqT_key x y (hsh_of hx).1 (hsh_of hy).1, decide_eq_true_iff]

section
variable {c : Cfg} {g : G} {K : Type} [DecidableEq K] {f : D → K} {B : D → Bool} {kvs : List (D × D)} {kv : List (K × Value)}
theorem Al.of : ∀ {kvs : List (D × D)} {kv : List (K × Value)} {vs : List V}, kv.map (·.1) = (kvs.map (·.1)).map f → (∀ d ∈ kvs.map (·.1), B d = true) → RepAll c g (kvs.map (·.2)) vs → Vals vs (kv.map (·.2)) → Al c g f B kvs kv
  | [], [], _, _, _, _, _ => .nil
  | [], _ :: _, _, h, _, _, _ => by simp at h
  | _ :: _, [], _, h, _, _, _ => by simp at h
  | (d, e) :: t, (k, u) :: t', _, h, hb, q, r => by
    simp only [List.map_cons, List.cons.injEq] at h
    obtain ⟨rfl, h⟩ := h
    cases q with
    | cons q1 q2 =>
      cases r with
      | cons r1 r2 => exact .cons (hb d (by simp)) q1 r1 (Al.of h (fun d hd => hb d (by simp only [List.map_cons, List.mem_cons]; exact .inr hd)) q2 r2)
theorem Al.keys : ∀ {kvs : List (D × D)} {kv : List (K × Value)}, Al c g f B kvs kv → kv.map (·.1) = (kvs.map (·.1)).map f ∧ ∀ d ∈ kvs.map (·.1), B d = true
  | _, _, .nil => ⟨rfl, fun d h => by simp at h⟩
  | _, _, .cons hb _ _ a => by
    obtain ⟨h1, h2⟩ := Al.keys a
    refine ⟨by simp [h1], fun d h => ?_⟩
    rcases List.mem_cons.mp (by simpa only [List.map_cons] using h) with rfl | h
    · exact hb
    · exact h2 d h
theorem Al.vals : ∀ {kvs : List (D × D)} {kv : List (K × Value)}, Al c g f B kvs kv → ∃ vs, RepAll c g (kvs.map (·.2)) vs ∧ Vals vs (kv.map (·.2))
  | _, _, .nil => ⟨[], .nil, .nil⟩
  | _, _, .cons _ q r a => by
    obtain ⟨vs, h1, h2⟩ := Al.vals a
    exact ⟨_ :: vs, .cons q h1, .cons r h2⟩
theorem Al.len : ∀ {kvs : List (D × D)} {kv : List (K × Value)}, Al c g f B kvs kv → kv.length = kvs.length
  | _, _, .nil => rfl
  | _, _, .cons _ _ _ a => by simp [Al.len a]
theorem Al.find (L : Law f B) {q : D} (hq : B q = true) : ∀ {kvs : List (D × D)} {kv : List (K × Value)}, Al c g f B kvs kv →
    (∃ e v u, findK kvs q = some e ∧ valueAt kv (f q) = some u ∧ Rep c g e v ∧ RelV v u) ∨ (findK kvs q = none ∧ valueAt kv (f q) = none)
  | _, _, .nil => .inr ⟨rfl, rfl⟩
  | _, _, .cons (d := d) (e := e) (v := v) (u := u) hb r1 r2 a => by
    by_cases h : eqT d q = true
    · refine .inl ⟨e, v, u, ?_, ?_, r1, r2⟩
      · simp [findK, List.find?_cons, h]
      · simp [valueAt, List.find?_cons, (L d q hb hq).mp h]
    · have h2 : f d ≠ f q := fun z => h ((L d q hb hq).mpr z)
      have h3 : eqT d q = false := by simpa using h
      rcases Al.find L hq a with ⟨e', v', u', k1, k2, k3⟩ | ⟨k1, k2⟩
      · refine .inl ⟨e', v', u', ?_, ?_, k3⟩
        · simpa [findK, List.find?_cons, h3] using k1
        · simpa [valueAt, List.find?_cons, h2] using k2
      · refine .inr ⟨?_, ?_⟩
        · simpa [findK, List.find?_cons, h3] using k1
        · simpa [valueAt, List.find?_cons, h2] using k2
theorem Al.any (L : Law f B) {q : D} (hq : B q = true) : ∀ {kvs : List (D × D)} {kv : List (K × Value)}, Al c g f B kvs kv → (kv.any fun p => decide (p.1 = f q)) = kvs.any fun p => eqT p.1 q
  | _, _, .nil => rfl
  | _, _, .cons (d := d) hb _ _ a => by
    rw [List.any_cons, List.any_cons, Al.any L hq a]
    congr 1
    rw [Bool.eq_iff_iff, decide_eq_true_iff]
    exact (L d q hb hq).symm
theorem Al.app {q e : D} {v : V} {u : Value} (hq : B q = true) (r1 : Rep c g e v) (r2 : RelV v u) : ∀ {kvs : List (D × D)} {kv : List (K × Value)}, Al c g f B kvs kv → Al c g f B (kvs ++ [(q, e)]) (kv ++ [(f q, u)])
  | _, _, .nil => .cons hq r1 r2 .nil
  | _, _, .cons hb q1 q2 a => .cons hb q1 q2 (Al.app hq r1 r2 a)
theorem Al.upd (L : Law f B) {q e : D} {v : V} {u : Value} (hq : B q = true) (r1 : Rep c g e v) (r2 : RelV v u) : ∀ {kvs : List (D × D)} {kv : List (K × Value)}, Al c g f B kvs kv →
    Al c g f B (kvs.map fun p => if eqT p.1 q then (p.1, e) else p) (kv.map fun p => if p.1 = f q then (p.1, u) else p)
  | _, _, .nil => .nil
  | _, _, .cons (d := d) hb q1 q2 a => by
    rw [List.map_cons, List.map_cons]
    by_cases h : eqT d q = true
    · rw [if_pos h, if_pos ((L d q hb hq).mp h)]
      exact .cons hb r1 r2 (Al.upd L hq r1 r2 a)
    · rw [if_neg h, if_neg fun z => h ((L d q hb hq).mpr z)]
      exact .cons hb q1 q2 (Al.upd L hq r1 r2 a)
theorem Al.put (L : Law f B) {q e : D} {v : V} {u : Value} (hq : B q = true) (r1 : Rep c g e v) (r2 : RelV v u) (a : Al c g f B kvs kv) : Al c g f B (putD kvs q e) (stored kv (f q) u) := by
  unfold putD stored
  rw [a.any L hq]
  split
  · exact a.upd L hq r1 r2
  · exact a.app hq r1 r2
end
theorem put_len (kvs : List (D × D)) (k v : D) : (putD kvs k v).length ≤ kvs.length + 1 := by
  unfold putD
  split <;> simp
theorem put_keys (kvs : List (D × D)) (k v : D) : (putD kvs k v).map (·.1) = if kvs.any fun p => eqT p.1 k then kvs.map (·.1) else kvs.map (·.1) ++ [k] := by
  unfold putD
  split
  · rw [List.map_map]
    refine List.map_congr_left fun p _ => ?_
    simp only [Function.comp_apply]
    split <;> rfl
  · simp
theorem rep_S {c : Cfg} {g : G} {z : D} (h : isStrD z = true) : Rep c g z (vS z) := by
  cases z <;> simp [isStrD] at h
  exact .str _
theorem reps_S {c : Cfg} {g : G} : ∀ {ds : List D}, (∀ d ∈ ds, isStrD d = true) → RepAll c g ds (ds.map vS)
  | [], _ => .nil
  | d :: ds, h => .cons (rep_S (h d (by simp))) (reps_S fun e he => h e (List.mem_cons_of_mem _ he))

section
variable {c : Cfg} {a : Addr} {o : Obj} {dks : List D} {ks vs : List V}
theorem DctP.txt (p : DctP c a o dks ks vs) (ht : ∀ d ∈ dks, isStrD d = true) : ∃ es ep, o.data = .dict es ep ∧ DTxt c es dks ks vs := by
  obtain ⟨es, ep, e, h | ⟨xs, h1, h2, h3, h4, h5, h6⟩⟩ := p.ds
  · exact ⟨es, ep, e, h⟩
  · have : dks = [] := by
      cases dks with
      | nil => rfl
      | cons d ds =>
        obtain ⟨_, _, ys, rfl⟩ := hsh_of (h6 d (by simp))
        exact absurd (ht (.tup ys) (by simp)) (by simp [isStrD])
    subst this
    obtain rfl : xs = [] := by cases xs with
      | nil => rfl
      | cons _ _ => cases h3
    have he : es.toList = [] := h1
    refine ⟨es, ep, e, [], [], fun x hx => ?_, ?_, .nil, rfl, rfl, h4, h5⟩
    · have : x ∈ es.toList := by simpa using hx
      rw [he] at this
      cases this
    · rw [he]
      exact .nil
theorem DctP.tup (p : DctP c a o dks ks vs) (ht : ∀ d ∈ dks, isTupD d = true) : ∃ es ep, o.data = .dict es ep ∧ DTup c es dks ks vs := by
  obtain ⟨es, ep, e, ⟨kv, ss, h1, h2, h3, h4, h5, h6, h7⟩ | h⟩ := p.ds
  · have : ss = [] := by
      cases ss with
      | nil => rfl
      | cons z zs =>
        rw [h4] at ht
        exact absurd (ht (.str z) (by simp)) (by simp [isTupD])
    subst this
    obtain rfl : kv = [] := by cases kv with
      | nil => rfl
      | cons _ _ => cases h5
    have he : es.toList = [] := by
      generalize es.toList = l at h2
      cases h2
      rfl
    subst h4
    exact ⟨es, ep, e, [], he, .nil, rfl, h6, h7, fun d hd => by simp at hd⟩
  · exact ⟨es, ep, e, h⟩
end
section
variable {c : Cfg} {a : Addr} {o : Obj} {kvs : List (D × D)} {ks vs : List V} {g : G} {h : Heap}
theorem fS_map (ss : List Str) : (ss.map D.str).map fS = ss.map Sum.inr := by simp [fS, Function.comp_def]
theorem txt_at (ho : h.get? a = some o) (p : DctP c a o (kvs.map (·.1)) ks vs) (q : RepAll c g (kvs.map (·.2)) vs) (ht : ∀ d ∈ kvs.map (·.1), isStrD d = true) :
    ∃ kv, h.DictOf (mixKind c.P c.w) a kv ∧ Al c g fS isStrD kvs kv := by
  obtain ⟨es, ep, e, kv, ss, h1, h2, h3, h4, h5, h6, h7⟩ := p.txt ht
  refine ⟨kv, ⟨o, es, ep, ho, p.ex, e, h1, h2, h3⟩, Al.of ?_ ht q h7⟩
  rw [h4, h5, fS_map]
theorem txtD_back {kv : List (Key × Value)} (hd : h.DictOf (mixKind c.P c.w) a kv) (al : Al c g fS isStrD kvs kv) (hs : (a == sysModules) = false) (hl : kvs.length ≤ 1000000) :
    ∃ o ks vs, h.get? a = some o ∧ DctP c a o (kvs.map (·.1)) ks vs ∧ RepAll c g (kvs.map (·.1)) ks ∧ RepAll c g (kvs.map (·.2)) vs := by
  obtain ⟨o, es, ep, ho, hx, e, h1, h2, h3⟩ := hd
  obtain ⟨k1, k2⟩ := al.keys
  obtain ⟨vs, v1, v2⟩ := al.vals
  have ss : ∀ {ds : List D}, (∀ d ∈ ds, isStrD d = true) → ∃ ss : List Str, ds = ss.map D.str := by
    intro ds
    induction ds with
    | nil => exact fun _ => ⟨[], rfl⟩
    | cons d ds ih =>
      intro hh
      obtain ⟨ss, e⟩ := ih fun x hx => hh x (List.mem_cons_of_mem _ hx)
      have := hh d (by simp)
      cases d <;> simp [isStrD] at this
      exact ⟨_ :: ss, by rw [e]; rfl⟩
  obtain ⟨ss, es'⟩ := ss k2
  refine ⟨o, _, vs, ho, ⟨hx, hs, by simpa using hl, es, ep, e, .inl ⟨kv, ss, h1, h2, h3, es', ?_, ?_, v2⟩⟩, reps_S k2, v1⟩
  · rw [k1, es', fS_map]
  · rw [es', List.map_map]
    rfl
theorem tup_dict {X : L2.Cx} {pins : List (Addr × Obj)} {σ : L2.St} {H : Hp} {s : Shared} {S : Store} (I : Inv X pins σ H s) (hK : X.K = c.K) (r : RelS c g S H)
    (ho : s.heap.get? a = some o) (p : DctP c a o (kvs.map (·.1)) ks vs) (qk : RepAll c g (kvs.map (·.1)) ks) (q : RepAll c g (kvs.map (·.2)) vs) (ht : ∀ d ∈ kvs.map (·.1), isTupD d = true) :
    ∃ xs : List (NestedKey × Addr × Value), s.heap.DictOfH (nestedKind c.P c.w) a xs ∧ Al c g keyT keyB kvs (xs.map fun x => (x.1, x.2.2)) ∧ ks = xs.map fun x => V.ref x.2.1 := by
  obtain ⟨es, ep, e, xs, h1, h2, h3, h4, h5, h6⟩ := p.tup ht
  refine ⟨xs, ⟨o, es, ep, ho, p.ex, e, h1, ?_, h2⟩, Al.of (by simpa [Function.comp_def] using h3) h6 q (by simpa [Function.comp_def] using h5), h4⟩
  subst h4
  have key : ∀ {xs : List (NestedKey × Addr × Value)} {ds : List D}, xs.map (·.1) = ds.map keyT → RepAll c g ds (xs.map fun x => V.ref x.2.1) → (∀ d ∈ ds, keyB d = true) → ∀ x ∈ xs, (nestedKind c.P c.w).is s.heap x.1 x.2.1 := by
    intro xs
    induction xs with
    | nil => intro _ _ _ _ x hx; cases hx
    | cons y ys ih =>
      intro ds e1 e2 e3 x hx
      cases ds with
      | nil => simp at e1
      | cons d ds =>
        simp only [List.map_cons, List.cons.injEq] at e1
        cases e2 with
        | cons q1 q2 =>
          rcases List.mem_cons.mp hx with rfl | hx
          · obtain ⟨b1, b2, _⟩ := hsh_of (e3 d (by simp))
            rw [e1.1]
            exact ⟨nest_d I hK r d _ _ q1 rfl b1, Nat.le_trans (dep_key d) b2⟩
          · exact ih e1.2 q2 (fun z hz => e3 z (List.mem_cons_of_mem _ hz)) x hx
  exact key h3 qk h6
theorem tupD_back {xs : List (NestedKey × Addr × Value)} (hd : h.DictOfH (nestedKind c.P c.w) a xs) (al : Al c g keyT keyB kvs (xs.map fun x => (x.1, x.2.2))) (qk : RepAll c g (kvs.map (·.1)) (xs.map fun x => V.ref x.2.1)) (hs : (a == sysModules) = false) (hl : kvs.length ≤ 1000000) :
    ∃ o ks vs, h.get? a = some o ∧ DctP c a o (kvs.map (·.1)) ks vs ∧ RepAll c g (kvs.map (·.1)) ks ∧ RepAll c g (kvs.map (·.2)) vs := by
  obtain ⟨o, es, ep, ho, hx, e, h1, h2, h3⟩ := hd
  obtain ⟨k1, k2⟩ := al.keys
  obtain ⟨vs, v1, v2⟩ := al.vals
  exact ⟨o, _, vs, ho, ⟨hx, hs, by simpa using hl, es, ep, e, .inr ⟨xs, h1, h3, by simpa [Function.comp_def] using k1, rfl, by simpa [Function.comp_def] using v2, k2⟩⟩, qk, v1⟩
end
theorem storedH_map (xs : List (NestedKey × Addr × Value)) (k : NestedKey) (b : Addr) (v : Value) : (storedH xs k b v).map (fun x => (x.1, x.2.2)) = stored (xs.map fun x => (x.1, x.2.2)) k v := by
  have e : (atKey xs k).isSome = (xs.map fun x => (x.1, x.2.2)).any fun p => decide (p.1 = k) := by
    rw [List.any_map]
    unfold atKey
    rw [Option.isSome_map]
    induction xs with
    | nil => rfl
    | cons x xs ih =>
      rw [List.find?_cons, List.any_cons]
      simp only [Function.comp_apply]
      cases h : decide (x.1 = k) with
      | true => rfl
      | false => rw [Bool.false_or]; exact ih
  unfold storedH stored
  rw [e]
  split
  · rw [List.map_map, List.map_map]
    refine List.map_congr_left fun x _ => ?_
    simp only [Function.comp_apply, putAt]
    split <;> rfl
  · simp
theorem storedH_keys (xs : List (NestedKey × Addr × Value)) (k : NestedKey) (b : Addr) (v : Value) : (storedH xs k b v).map (fun x => V.ref x.2.1) = if (atKey xs k).isSome then xs.map (fun x => V.ref x.2.1) else xs.map (fun x => V.ref x.2.1) ++ [V.ref b] := by
  unfold storedH
  split
  · rw [List.map_map]
    refine List.map_congr_left fun x _ => ?_
    simp only [Function.comp_apply, putAt]
    split <;> rfl
  · simp
theorem at_value (xs : List (NestedKey × Addr × Value)) (k : NestedKey) : valueAt (xs.map fun x => (x.1, x.2.2)) k = (atKey xs k).map (·.2) := by
  unfold valueAt atKey
  induction xs with
  | nil => rfl
  | cons x xs ih =>
    rw [List.map_cons, List.find?_cons, List.find?_cons]
    cases h : decide (x.1 = k) with
    | true => simp
    | false => simpa using ih
end FT
end

section
set_option Elab.async false
set_option linter.all false
set_option maxRecDepth 100000
set_option autoImplicit false
/-! FT.Sound4: operators by values. -/
namespace FT
open PySem L2 LamX

section
variable {X : L2.Cx} {pins : List (Addr × Obj)} {σ : L2.St} {H : Hp} {s : Shared} {c : Cfg} {g : G} {S : Store}

/-- what is wanted of data that are answered: of a list to be live, its making -/
def Gets (c : Cfg) (g : G) (S : Store) (H : Hp) (live : Bool) (Q : V → Hp → Prop) (d : D) : Prop :=
  if live then ∃ xs, d = .lst xs ∧ ∀ p vs, H p = none → RepAll c g xs vs → Q (.ref p) (upd H p (.lst vs))
  else ∀ v H' g', g.le g' → RelS c g' S H' → Rep c g' d v → Q v H'
theorem Gets.flat {Q : V → Hp → Prop} {d : D} {v : V} {live : Bool} (w : Gets c g S H live Q d) (r : RelS c g S H) (q : Rep c g d v) (h : ∀ xs, d ≠ .lst xs) : Q v H := by
  cases live with
  | true => obtain ⟨xs, e, _⟩ := w; exact (h xs e).elim
  | false => exact w v H g (G.le.refl g) r q
theorem Gets.list {Q : V → Hp → Prop} {xs : List D} {vs : List V} {live : Bool} (w : Gets c g S H live Q (.lst xs)) (r : RelS c g S H) (q : RepAll c g xs vs) : ∀ p, H p = none → Q (.ref p) (upd H p (.lst vs)) := fun p hp => by
  cases live with
  | true => obtain ⟨ys, e, h⟩ := w; cases e; exact h p vs hp q
  | false =>
    obtain ⟨hl, r'⟩ := r.fresh (o := .lst vs) hp (fun ps z => HO.noConfusion z)
    exact w _ _ _ hl r' (.lst (.inl (.inl upd_same)) (q.mono hl.tolt))
theorem Gets.tup {Q : V → Hp → Prop} {xs : List D} {vs : List V} {live : Bool} (w : Gets c g S H live Q (.tup xs)) (r : RelS c g S H) (q : RepAll c g xs vs) : ∀ p, H p = none → Q (.ref p) (upd H p (.tup vs)) := fun p hp => by
  cases live with
  | true => obtain ⟨ys, e, h⟩ := w; cases e
  | false =>
    obtain ⟨hl, r'⟩ := r.fresh (o := .tup vs) hp (fun ps z => HO.noConfusion z)
    exact w _ _ _ hl r' (.tup (.inl (.inl upd_same)) (q.mono hl.tolt))

theorem _root_.L2.Inv.lstR (I : Inv X pins σ H s) {l : Addr} {xs : List V} (hH : LsO X.K H l xs) : xs.length ≤ sizeLine ∧ ∃ (its : List Value) (n : Nat), Vals xs its ∧ xs.length = its.length ∧ s.heap.get? l = some { cls := .type "list", data := .seq its.toArray n } := by
  rcases hH with hH | ⟨its, n, h1, h2, h3⟩
  · obtain ⟨z, its, n, r, e⟩ := hH.ok I.hok
    exact ⟨z, its, n, r, r.length, e⟩
  · exact ⟨h2, its, n, h3, h3.length, I.kIn _ _ h1⟩
def rCatR (K : PySem.W.Frag) : R2 := fun x y H Q => ∃ l b xs zs, x = .ref l ∧ y = .ref b ∧ LsO K H l xs ∧ LsO K H b zs ∧ xs.length + zs.length ≤ sizeLine ∧ ∀ p, H p = none → Q (.ref p) (upd H p (.lst (xs ++ zs)))
theorem op_catR : OpR X (binaryOp .Add) (rCatR X.K) := by
  intro pins s σ H x y v u Q I rx ry h
  obtain ⟨l, b, xs, zs, rfl, rfl, hH, hB, hz, q⟩ := h
  cases rx
  cases ry
  obtain ⟨z, its, n, r, hl, e⟩ := I.lstR hH
  obtain ⟨z2, its2, n2, r2, hl2, e2⟩ := I.lstR hB
  refine PySem.P.add_list e e2 ?_ (by rw [List.size_toArray, List.size_toArray]; omega)
  have ea : its.toArray ++ its2.toArray = (its ++ its2).toArray := by simp
  rw [ea]
  exact ⟨.ref _, _, I.lnew (t' := s.toks) (r.append r2) (by rw [List.length_append]; omega), rfl, q _ I.fresh⟩
/-! ### a op b -/
def rBin (c : Cfg) (live : Bool) (op : Operator) : R2 := fun x y H Q => ∃ dx dy S g d, RelS c g S H ∧ Rep c g dx x ∧ Rep c g dy y ∧ binD op dx dy S = some d ∧ Gets c g S H live Q d
theorem rep_int {i : Int} {v : V} (h : Rep c g (.int i) v) : v = .int i := by cases h; rfl
theorem rep_str {i : Str} {v : V} (h : Rep c g (.str i) v) : v = .str i := by cases h; rfl
theorem rep_bl {i : Bool} {v : V} (h : Rep c g (.bl i) v) : v = .bl i := by cases h; rfl
theorem rep_non {v : V} (h : Rep c g .non v) : v = .non := by cases h; rfl
theorem mul_ok {i j : Int} (h : mulOk i j = true) : CMulW i j := by
  unfold CMulW
  exact of_decide_eq_true h
theorem sz_le {n : Nat} (h : sz n = true) : n ≤ sizeLine := of_decide_eq_true h
theorem op_bin (hK : X.K = c.K) (live : Bool) (op : Operator) : OpR X (binaryOp op) (rBin c live op) := by
  intro pins s σ H x y v u Q I rx ry h
  obtain ⟨dx, dy, S, g, d, r, qx, qy, hb, w⟩ := h
  unfold binD at hb
  split at hb
  · cases rep_int qx; cases rep_int qy; cases hb
    exact op_add pins s σ H _ _ v u Q I rx ry ⟨_, _, rfl, rfl, w.flat r (.int _) (fun _ z => by cases z)⟩
  · cases rep_int qx; cases rep_int qy; cases hb
    exact op_sub pins s σ H _ _ v u Q I rx ry ⟨_, _, rfl, rfl, w.flat r (.int _) (fun _ z => by cases z)⟩
  · split at hb
    · rename_i hm
      cases rep_int qx; cases rep_int qy; cases hb
      exact op_mulW pins s σ H _ _ v u Q I rx ry ⟨_, _, rfl, rfl, mul_ok hm, w.flat r (.int _) (fun _ z => by cases z)⟩
    · cases hb
  · split at hb
    · rename_i hm
      cases rep_int qx; cases rep_int qy; cases hb
      exact op_mod pins s σ H _ _ v u Q I rx ry ⟨_, _, rfl, rfl, hm, w.flat r (.int _) (fun _ z => by cases z)⟩
    · cases hb
  · split at hb
    · rename_i hm
      cases rep_int qx; cases rep_int qy; cases hb
      exact op_fdivW pins s σ H _ _ v u Q I rx ry ⟨_, _, rfl, rfl, hm, w.flat r (.int _) (fun _ z => by cases z)⟩
    · cases hb
  · split at hb
    · rename_i hm
      cases rep_int qx; cases rep_int qy; cases hb
      exact op_pow pins s σ H _ _ v u Q I rx ry ⟨_, _, rfl, rfl, hm, w.flat r (.int _) (fun _ z => by cases z)⟩
    · cases hb
  · split at hb
    · rename_i hm
      cases rep_str qx; cases rep_str qy; cases hb
      exact op_add_str pins s σ H _ _ v u Q I rx ry ⟨_, _, rfl, rfl, sz_le hm, w.flat r (.str _) (fun _ z => by cases z)⟩
    · cases hb
  · split at hb
    · rename_i a b hm
      obtain ⟨p, vs, rfl, ra, ta⟩ := rep_tup r qx
      obtain ⟨p', ws, rfl, rb, tb⟩ := rep_tup r qy
      cases hb
      refine op_catA pins s σ H _ _ v u Q I rx ry ⟨p, p', vs, ws, rfl, rfl, by rw [hK]; exact ta, by rw [hK]; exact tb, by rw [← ra.length, ← rb.length]; exact sz_le hm, fun e => ?_, fun _ e => ?_, fun _ _ => w.tup r (ra.append rb)⟩
      · subst e; cases ra
        exact w.flat r qy (fun _ z => by cases z)
      · subst e; cases rb
        exact w.flat r (by simpa using qx) (fun _ z => by cases z)
    · cases hb
  · split at hb
    · rename_i a k hm
      cases rep_str qx
      cases rep_int qy
      cases hb
      obtain ⟨t, rfl⟩ := rx
      obtain ⟨t', rfl⟩ := ry
      rw [Bool.and_eq_true, decide_eq_true_eq] at hm
      obtain ⟨⟨m1, m2, m3, m4⟩, m5⟩ := hm
      have big : ¬ ((a.length : Int) > (2 ^ 63 - 1) / k) := by
        have h1 : (a.length : Int) ≤ (2 ^ 63 - 1) / k := by
          rw [Int.le_ediv_iff_mul_le (by omega)]
          have h2 : (a.length : Int) * k ≤ 1000 * 1000 := Int.mul_le_mul (by omega) m2 (by omega) (by omega)
          omega
        omega
      have small : a.length * k.toNat ≤ 1000 * 1000 := Nat.mul_le_mul m4 (by omega)
      have one : (k == 1 || a.length == 0) = false := by
        rw [Bool.or_eq_false_iff, beq_eq_false_iff_ne, beq_eq_false_iff_ne]
        omega
      refine PySem.P.mul_str (by rw [decide_eq_false (by omega), decide_eq_false (by omega)]; rfl) (fun _ _ => big) (fun _ _ => ?_) ?_
      · unfold Builtin.Str.tooLong
        rw [decide_eq_false_iff_not, sizeLine_eq]
        omega
      · rw [if_neg (by omega), if_neg (by rw [one]; exact Bool.false_ne_true)]
        exact ⟨sz_le m5, .str _, H, I.tok _, ⟨_, rfl⟩, w.flat r (.str _) (fun _ z => by cases z)⟩
    · cases hb
  · split at hb
    · rename_i a k hm
      obtain ⟨p, vs, rfl, ra, ta⟩ := rep_tup r qx
      cases rep_int qy
      cases hb
      have hm' : a ≠ [] ∧ 2 ≤ k ∧ k ≤ 1000 ∧ a.length ≤ 1000 := by simpa using hm
      obtain ⟨m1, m2, m3, m4⟩ := hm'
      refine op_repT pins s σ H _ _ v u Q I rx ry ⟨p, k, vs, rfl, rfl, by rw [hK]; exact ta, fun z => by subst z; cases ra; exact m1 rfl, m2, m3, by rw [← ra.length]; exact m4, w.tup r (RepAll.flat _ ra)⟩
    · cases hb
  · split at hb
    · rename_i a b e1 e2
      split at hb
      · rename_i hm
        obtain ⟨p, vs, rfl, ra, ta⟩ := rep_lst r qx e1
        obtain ⟨p', ws, rfl, rb, tb⟩ := rep_lst r qy e2
        cases hb
        exact op_catR pins s σ H _ _ v u Q I rx ry ⟨p, p', vs, ws, rfl, rfl, by rw [hK]; exact ta, by rw [hK]; exact tb, by rw [← ra.length, ← rb.length]; exact sz_le hm, w.list r (ra.append rb)⟩
      · cases hb
    · cases hb
  · cases hb
end
end FT
end

section
set_option Elab.async false
set_option linter.all false
set_option maxRecDepth 100000
set_option autoImplicit false
/-! FT.DctW: the operations of dicts by values. -/
namespace FT
open PySem L2 LamX PyProof.Rows

section
variable {X : L2.Cx} {pins : List (Addr × Obj)} {σ : L2.St} {H : Hp} {s : Shared} {c : Cfg} {g : G} {S : Store} {kvs : List (D × D)}
/-- a dict as it stands -/
structure DAt (c : Cfg) (g : G) (h : Heap) (a : Addr) (kvs : List (D × D)) : Prop where
  ex : ∃ o ks vs, h.get? a = some o ∧ DctP c a o (kvs.map (·.1)) ks vs ∧ RepAll c g (kvs.map (·.1)) ks ∧ RepAll c g (kvs.map (·.2)) vs
theorem DAt.ty {h : Heap} {a : Addr} (d : DAt c g h a kvs) {sh : Shared} (e : sh.heap = h) : sh.TypeIs (.ref a) "dict" := by
  subst e
  obtain ⟨o, ks, vs, ho, p, _⟩ := d.ex
  exact ⟨o, ho, p.ex.1⟩
theorem DAt.sys {h : Heap} {a : Addr} (d : DAt c g h a kvs) : (a == sysModules) = false := by
  obtain ⟨o, ks, vs, ho, p, _⟩ := d.ex
  exact p.sys
theorem dct_live (I : Inv X pins σ H s) (r : RelS c g S H) {id : Nat} {x : V} (q : Rep c g (.obj id) x) (h : S[id]? = some (.dct kvs)) : ∃ a o, x = .ref a ∧ g.φ[id]? = some a ∧ H a = some (DX a o) ∧ DAt c g s.heap a kvs := by
  cases q with
  | @obj _ a e =>
    obtain ⟨_, o, ks, vs, h1, h2, h3, h4⟩ := r.live id a _ e h
    exact ⟨a, o, rfl, e, h1, ⟨o, ks, vs, (show ObjOk X.prog X.w H s.heap a (DX a o) from I.hok _ _ h1).1, h2, h3, h4⟩⟩
theorem dct_view (I : Inv X pins σ H s) (hK : X.K = c.K) (r : RelS c g S H) {d : D} {x : V} (q : Rep c g d x) (h : dctD S d = some kvs) : ∃ a, x = .ref a ∧ DAt c g s.heap a kvs := by
  cases q with
  | dct e p k v =>
    cases h
    exact ⟨_, rfl, _, _, _, dct_at I hK r e, p, k, v⟩
  | @obj i a e =>
    simp only [dctD] at h
    split at h
    · rename_i kk hs
      cases h
      obtain ⟨a', o, h1, h2, h3, h4⟩ := dct_live I r (.obj e) hs
      exact ⟨a', h1, h4⟩
    · cases h
  | _ => cases h
theorem keyFor_cases {k : D} (h : keyFor kvs k = true) : (∃ z, k = .str z ∧ ∀ d ∈ kvs.map (·.1), isStrD d = true) ∨ (keyB k = true ∧ ∀ d ∈ kvs.map (·.1), isTupD d = true) := by
  unfold keyFor at h
  rw [Bool.or_eq_true, Bool.and_eq_true, Bool.and_eq_true, List.all_eq_true, List.all_eq_true] at h
  have sub : ∀ {p : D → Bool}, (∀ x ∈ kvs, p x.1 = true) → ∀ d ∈ kvs.map (·.1), p d = true := fun {p} hh d hd => by
    obtain ⟨x, hx, rfl⟩ := List.mem_map.mp hd
    exact hh x hx
  rcases h with ⟨h1, h2⟩ | ⟨h1, h2⟩
  · cases k <;> simp [isStrD] at h1
    exact .inl ⟨_, rfl, sub h2⟩
  · exact .inr ⟨h1, sub h2⟩
/-- a key that is looked for, as the library wants it -/
theorem key_view (I : Inv X pins σ H s) (O : OverC c X) (r : RelS c g S H) {a : Addr} {dk : D} {y : V} {u : Value} (d : DAt c g s.heap a kvs) (qk : Rep c g dk y) (ry : RelV y u) (h : keyFor kvs dk = true) :
    (∃ kv k, s.heap.DictOf (mixKind X.prog X.w) a kv ∧ Al c g fS isStrD kvs kv ∧ isStrD dk = true ∧ k = fS dk ∧ (mixKind X.prog X.w).is k u = true) ∨
    (∃ xs b, s.heap.DictOfH (nestedKind X.prog X.w) a xs ∧ Al c g keyT keyB kvs (xs.map fun x => (x.1, x.2.2)) ∧ keyB dk = true ∧ u = .ref b ∧ y = .ref b ∧ (nestedKind X.prog X.w).is s.heap (keyT dk) b ∧ RepAll c g (kvs.map (·.1)) (xs.map fun x => V.ref x.2.1)) := by
  obtain ⟨o, ks, vs, ho, p, h1, h2⟩ := d.ex
  rw [O.P, O.w]
  rcases keyFor_cases h with ⟨z, rfl, hs⟩ | ⟨hk, hs⟩
  · obtain ⟨kv, k1, k2⟩ := txt_at ho p h2 hs
    cases rep_str qk
    exact .inl ⟨kv, .inr z, k1, k2, rfl, rfl, kV_is (k := .inr z) ry⟩
  · obtain ⟨xs, k1, k2, k3⟩ := tup_dict I O.K r ho p h1 h2 hs
    obtain ⟨b1, b2, ds, rfl⟩ := hsh_of hk
    have hn := nest_d I O.K r _ _ _ qk ry b1
    cases qk with
    | tup s1 s2 =>
      cases ry
      exact .inr ⟨xs, _, k1, k2, hk, rfl, rfl, ⟨hn, Nat.le_trans (dep_key _) b2⟩, by rw [← k3]; exact h1⟩
variable {A : Around} {E : Value → Shared → Prop} {a : Addr} {dk : D} {y : V} {u : Value}
theorem room_n (hu : X.A.units + 130 < cLine) : (nestedKind X.prog X.w).room X.A.in1 := show X.A.units + 1 + 8 < cLine by omega
/-- d[k] -/
theorem w_get (I : Inv X pins σ H s) (O : OverC c X) (hu : X.A.units + 130 < cLine) (r : RelS c g S H) (d : DAt c g s.heap a kvs) (qk : Rep c g dk y) (ry : RelV y u) (hk : keyFor kvs dk = true) {e : D} (he : findK kvs dk = some e) {Q : Value → Shared → Prop}
    (h : ∀ v w t, Rep c g e v → RelV v w → Q w { s with toks := t }) : wpAny (model X.prog X.w) X.A (getItem (.ref a) u) Q E s := by
  rcases key_view I O r d qk ry hk with ⟨kv, k, k1, k2, k3, rfl, k5⟩ | ⟨xs, b, k1, k2, k3, rfl, rfl, k4, _⟩
  · rcases k2.find law_S k3 with ⟨e', v, w, f1, f2, f3, f4⟩ | ⟨f1, f2⟩
    · rw [he] at f1
      cases f1
      exact wpAny_getItem_of k5 k1.mapOf f2 (h v w _ f3 f4)
    · rw [he] at f1; cases f1
  · rcases k2.find law_T k3 with ⟨e', v, w, f1, f2, f3, f4⟩ | ⟨f1, f2⟩
    · rw [he] at f1
      cases f1
      rw [at_value] at f2
      obtain ⟨p, hp, hp2⟩ := Option.map_eq_some_iff.mp f2
      refine wpAny_getItem_heap (room_n hu) k4 k1 hp ?_
      rw [hp2]
      exact h v w _ f3 f4
    · rw [he] at f1; cases f1
theorem isSome_S {kv : List (Key × Value)} (al : Al c g fS isStrD kvs kv) (h : isStrD dk = true) : (valueAt kv (fS dk)).isSome = (findK kvs dk).isSome := by
  rcases al.find law_S h with ⟨e', v, w, f1, f2, _⟩ | ⟨f1, f2⟩ <;> rw [f1, f2] <;> rfl
theorem isSome_T {xs : List (NestedKey × Addr × Value)} (al : Al c g keyT keyB kvs (xs.map fun x => (x.1, x.2.2))) (h : keyB dk = true) : (atKey xs (keyT dk)).isSome = (findK kvs dk).isSome := by
  rcases al.find law_T h with ⟨e', v, w, f1, f2, _⟩ | ⟨f1, f2⟩ <;> rw [at_value] at f2 <;> rw [f1]
  · obtain ⟨p, hp, _⟩ := Option.map_eq_some_iff.mp f2
    rw [hp]
    rfl
  · rw [Option.map_eq_none_iff] at f2
    rw [f2]
    rfl
/-- k in d, k not in d -/
theorem w_in (I : Inv X pins σ H s) (O : OverC c X) (hu : X.A.units + 130 < cLine) (r : RelS c g S H) (d : DAt c g s.heap a kvs) (qk : Rep c g dk y) (ry : RelV y u) (hk : keyFor kvs dk = true) {Q : Value → Shared → Prop}
    (h : ∀ t, Q (.bool (findK kvs dk).isSome) { s with toks := t }) : wpAny (model X.prog X.w) X.A (compareOp .In u (.ref a)) Q E s := by
  rcases key_view I O r d qk ry hk with ⟨kv, k, k1, k2, k3, rfl, k5⟩ | ⟨xs, b, k1, k2, k3, rfl, rfl, k4, _⟩
  · exact wpAny_in_of k5 d.sys k1.mapOf (by rw [isSome_S k2 k3]; exact h _)
  · exact wpAny_in_heap (room_n hu) k4 d.sys k1 (by rw [isSome_T k2 k3]; exact h _)
theorem w_notIn (I : Inv X pins σ H s) (O : OverC c X) (hu : X.A.units + 130 < cLine) (r : RelS c g S H) (d : DAt c g s.heap a kvs) (qk : Rep c g dk y) (ry : RelV y u) (hk : keyFor kvs dk = true) {Q : Value → Shared → Prop}
    (h : ∀ t, Q (.bool (!(findK kvs dk).isSome)) { s with toks := t }) : wpAny (model X.prog X.w) X.A (compareOp .NotIn u (.ref a)) Q E s := by
  rcases key_view I O r d qk ry hk with ⟨kv, k, k1, k2, k3, rfl, k5⟩ | ⟨xs, b, k1, k2, k3, rfl, rfl, k4, _⟩
  · exact wpAny_notIn_of k5 d.sys k1.mapOf (by rw [isSome_S k2 k3]; exact h _)
  · exact wpAny_notIn_heap (room_n hu) k4 d.sys k1 (by rw [isSome_T k2 k3]; exact h _)
/-- d.get(k, x) -/
theorem w_getOr (I : Inv X pins σ H s) (O : OverC c X) (hu : X.A.units + 130 < cLine) (r : RelS c g S H) (d : DAt c g s.heap a kvs) (qk : Rep c g dk y) (ry : RelV y u) (hk : keyFor kvs dk = true) {dd : D} {z : V} {w : Value} (qd : Rep c g dd z) (rd : RelV z w) {Q : Value → Shared → Prop}
    (h : ∀ v w t, Rep c g ((findK kvs dk).getD dd) v → RelV v w → Q w { s with toks := t }) : wpAny (model X.prog X.w) X.A (call (.builtin "dict.get") [.ref a, u, w]) Q E s := by
  rcases key_view I O r d qk ry hk with ⟨kv, k, k1, k2, k3, rfl, k5⟩ | ⟨xs, b, k1, k2, k3, rfl, rfl, k4, _⟩
  · refine call_meetsIn PySem.F.slot_dict_get k1.typeIs PySem.F.entry_dict_get (PySem.F.args_dict_get_3 _ _ _) (meets_dict_get_default (mixKind X.prog X.w) a k5 d.sys w) ⟨_, k1.mapOf, ?_⟩
    rcases k2.find law_S k3 with ⟨e', v, w', f1, f2, f3, f4⟩ | ⟨f1, f2⟩
    · rw [f2]
      exact h v _ _ (by rw [f1]; exact f3) f4
    · rw [f2]
      exact h z _ _ (by rw [f1]; exact qd) rd
  · refine call_meetsIn PySem.F.slot_dict_get k1.typeIs PySem.F.entry_dict_get (PySem.F.args_dict_get_3 _ _ _) (meetsH_dict_get_default (nestedKind X.prog X.w) a b d.sys w) ⟨room_n hu, _, xs, k4, k1, ?_⟩
    rcases k2.find law_T k3 with ⟨e', v, w', f1, f2, f3, f4⟩ | ⟨f1, f2⟩ <;> rw [at_value] at f2
    · rw [f2]
      exact h v _ _ (by rw [f1]; exact f3) f4
    · rw [f2]
      exact h z _ _ (by rw [f1]; exact qd) rd
theorem dx_ok {P : Program} {w : World} {H' : Hp} {h' : Heap} {a : Addr} {o : Obj} (e : h'.get? a = some o) : ObjOk P w H' h' a (DX a o) :=
  ⟨e, ⟨_, e⟩, fun h1 h2 z k => k _ z⟩
/-- d[k] = x of a live dict -/
theorem w_set (I : Inv X pins σ H s) (O : OverC c X) (hu : X.A.units + 130 < cLine) (r : RelS c g S H) {id : Nat} (hid : g.φ[id]? = some a) (hs : S[id]? = some (.dct kvs)) {o : Obj} (hH : H a = some (DX a o)) (d : DAt c g s.heap a kvs)
    (qk : Rep c g dk y) (ry : RelV y u) (hk : keyFor kvs dk = true) (hl : kvs.length < 1000000) {dv : D} {z : V} {w : Value} (qd : Rep c g dv z) (rd : RelV z w) {Q : Unit → Shared → Prop}
    (h : ∀ s' H', Inv X pins σ H' s' → RelS c g (S.set id (.dct (putD kvs dk dv))) H' → Q () s') : wpAny (model X.prog X.w) X.A (setItem (.ref a) u w) Q E s := by
  have hl' : (putD kvs dk dv).length ≤ 1000000 := Nat.le_trans (put_len _ _ _) hl
  have fin : ∀ {h' : Heap} {t : Nat}, Heap.SameBut a s.heap h' → (∃ o ks vs, h'.get? a = some o ∧ DctP c a o ((putD kvs dk dv).map (·.1)) ks vs ∧ RepAll c g ((putD kvs dk dv).map (·.1)) ks ∧ RepAll c g ((putD kvs dk dv).map (·.2)) vs) →
      Q () { s with heap := h', toks := t } := fun {h' t} sb ⟨o', ks, vs, k1, k2, k3, k4⟩ =>
    h _ _ (d_write I (ob := DX a o') (by rw [hH]; exact True.intro) sb ⟨_, k1⟩ (dx_ok k1)) (r.writeD hid hs k2 k3 k4)
  rcases key_view I O r d qk ry hk with ⟨kv, k, k1, k2, k3, rfl, k5⟩ | ⟨xs, b, k1, k2, k3, rfl, rfl, k4, k6⟩
  · have hsz : kv.length ≤ sizeLine := by rw [k2.len, sizeLine_eq]; omega
    refine wpAny_setItem_pairs (hsz := hsz) k5 k1 fun h' dd sb => fin sb ?_
    rw [O.P, O.w] at dd
    exact txtD_back dd (k2.put law_S k3 qd rd) d.sys hl'
  · have hx : xs.length = kvs.length := by rw [← k2.len, List.length_map]
    have hsz : xs.length ≤ sizeLine := by rw [hx, sizeLine_eq]; omega
    refine wpAny_setItem_heap (hsz := hsz) (room_n hu) k4 k1 fun h' dd sb => fin sb ?_
    rw [O.P, O.w] at dd
    refine tupD_back dd (by rw [storedH_map]; exact k2.put law_T k3 qd rd) ?_ d.sys hl'
    rw [storedH_keys, put_keys, isSome_T k2 k3]
    have e2 : (findK kvs dk).isSome = kvs.any fun p => eqT p.1 dk := by
      unfold findK
      rw [Option.isSome_map, Bool.eq_iff_iff, List.find?_isSome, List.any_eq_true]
    rw [e2]
    split
    · exact k6
    · exact k6.append (.cons qk .nil)
end
end FT
end

section
set_option Elab.async false
set_option linter.all false
set_option maxRecDepth 100000
set_option autoImplicit false
/-! FT.Sound5: comparisons by values; truth. -/
namespace FT
open PySem L2 LamX PyProof.Rows

mutual
theorem hasD_py : ∀ d : D, (pyT d).hasDict = hasD d
  | .non => by simp [pyT, PyData.hasDict, hasD]
  | .bl _ => by simp [pyT, PyData.hasDict, hasD]
  | .int _ => by simp [pyT, PyData.hasDict, hasD]
  | .str s => by simp [pyT, PyData.hasDict, hasD]
  | .tup xs => by have := hasD_pys xs; simp [pyT, PyData.hasDict, hasD]; exact this
  | .lst xs => by have := hasD_pys xs; simp [pyT, PyData.hasDict, hasD]; exact this
  | .dct kvs => by simp [pyT, PyData.hasDict, hasD]
  | .obj _ => by simp [pyT, PyData.hasDict, hasD]
  | .ins _ _ => by simp [pyT, PyData.hasDict, hasD]
  | .exc _ _ => by simp [pyT, PyData.hasDict, hasD]
  | .fn _ => by simp [pyT, PyData.hasDict, hasD]
theorem hasD_pys : ∀ ds : List D, PyData.hasDictAll (pyTs ds) = hasDs ds
  | [] => by simp [pyTs, PyData.hasDictAll, hasDs]
  | d :: ds => by
    have a := hasD_py d
    have b := hasD_pys ds
    simp only [pyTs, PyData.hasDictAll, hasDs, a, b]
end
section
variable {X : L2.Cx} {pins : List (Addr × Obj)} {σ : L2.St} {H : Hp} {s : Shared} {c : Cfg} {g : G} {S : Store}
theorem tup_at (I : Inv X pins σ H s) (hK : X.K = c.K) (r : RelS c g S H) {xs : List D} {x : V} {v : Value} (q : Rep c g (.tup xs) x) (rx : RelV x v) :
    ∃ a its, v = .ref a ∧ IsTup s.heap a its ∧ its.size = xs.length := by
  obtain ⟨p, vs, rfl, ra, ta⟩ := rep_tup r q
  cases rx
  obtain ⟨its, rv, ht, _⟩ := I.tuple (by rw [hK]; exact ta)
  exact ⟨p, _, rfl, ht, by simp [← rv.length, ra.length]⟩
/-- two data compared, with == or != (ne) -/
theorem cmp_data (I : Inv X pins σ H s) (hK : X.K = c.K) (hu : X.A.units + 130 < cLine) (r : RelS c g S H) {dx dy : D} {x y : V} {v u : Value} (qx : Rep c g dx x) (qy : Rep c g dy y) (rx : RelV x v) (ry : RelV y u)
    (fx : fitT (resD S dx) = true) (fy : fitT (resD S dy) = true) :
    (∀ {Q : Value → Shared → Prop} {E : Value → Shared → Prop}, Q (.bool (eqT (resD S dx) (resD S dy))) s → wpAny (model X.prog X.w) X.A (compareOp .Eq v u) Q E s) ∧
    (∀ {Q : Value → Shared → Prop} {E : Value → Shared → Prop}, Q (.bool (!eqT (resD S dx) (resD S dy))) s → wpAny (model X.prog X.w) X.A (compareOp .NotEq v u) Q E s) := by
  obtain ⟨o1, l1, t1, d1⟩ := fit_lay fx
  obtain ⟨o2, l2, t2, d2⟩ := fit_lay fy
  obtain ⟨as, a1, _⟩ := reads_d I hK r qx rx t1
  obtain ⟨bs, b1, _⟩ := reads_d I hK r qy ry t2
  have hroom : X.A.units + min (pyT (resD S dx)).depth (pyT (resD S dy)).depth < cLine := by
    have : min (pyT (resD S dx)).depth (pyT (resD S dy)).depth ≤ 64 := Nat.le_trans (Nat.min_le_left _ _) d1
    omega
  exact ⟨fun h => SeqAt.compareEq_reads a1 b1 l1 l2 hroom (by rw [eqv_py _ _ o1 o2]; exact h), fun h => SeqAt.compareNe_reads a1 b1 l1 l2 hroom (by rw [eqv_py _ _ o1 o2]; exact h)⟩
theorem eq_cmp (I : Inv X pins σ H s) (hK : X.K = c.K) (hu : X.A.units + 130 < cLine) (r : RelS c g S H) {dx dy : D} {x y : V} {v u : Value} (qx : Rep c g dx x) (qy : Rep c g dy y) (rx : RelV x v) (ry : RelV y u) {b : Bool} (h : eqD S dx dy = some b) {Q : VK} :
    (Q (.bl b) H → wpAny (model X.prog X.w) X.A (compareOp .Eq v u) (EP X pins σ Q) X.xe s) ∧ (Q (.bl (!b)) H → wpAny (model X.prog X.w) X.A (compareOp .NotEq v u) (EP X pins σ Q) X.xe s) := by
  unfold eqD at h
  split at h
  · cases rep_non qx; cases rep_non qy; cases h
    exact ⟨fun w => op_eq pins s σ H _ _ v u Q I rx ry ⟨rfl, w⟩, fun w => op_ne pins s σ H _ _ v u Q I rx ry ⟨rfl, w⟩⟩
  · cases rep_bl qx; cases rep_bl qy; cases h
    exact ⟨fun w => op_eq pins s σ H _ _ v u Q I rx ry ⟨rfl, by rw [dec_bl]; exact w⟩, fun w => op_ne pins s σ H _ _ v u Q I rx ry ⟨rfl, by rw [dec_bl]; exact w⟩⟩
  · cases rep_int qx; cases rep_int qy; cases h
    exact ⟨fun w => op_eq pins s σ H _ _ v u Q I rx ry ⟨rfl, by rw [dec_int]; exact w⟩, fun w => op_ne pins s σ H _ _ v u Q I rx ry ⟨rfl, by rw [dec_int]; exact w⟩⟩
  · cases rep_str qx; cases rep_str qy; cases h
    exact ⟨fun w => op_eq pins s σ H _ _ v u Q I rx ry ⟨rfl, by rw [dec_str]; exact w⟩, fun w => op_ne pins s σ H _ _ v u Q I rx ry ⟨rfl, by rw [dec_str]; exact w⟩⟩
  · rename_i xs
    cases h
    obtain ⟨a, its, rfl, h1, n1⟩ := tup_at I hK r qx rx
    obtain ⟨a', its', rfl, h2, n2⟩ := tup_at I hK r qy ry
    have e2 : its'.size = 0 := by simpa using n2
    have he : ∀ j (h1 : j < its.size) (h2 : j < its'.size), SeqAt.EqAt X.A.in1 s its[j] its'[j] true := fun j _ h => absurd h (by omega)
    have hb : ((List.range (min its.size its'.size)).all (fun _ => true) && its.size == its'.size) = xs.isEmpty := by
      have e0 : min its.size its'.size = 0 := by omega
      rw [e0, e2, n1]
      cases xs <;> simp
    exact ⟨fun w => SeqAt.RcAt.tuples (e := fun _ => true) h1 h2 (by omega) he X.prog X.w _ _ (by rw [hb]; exact ⟨.bl _, H, I, rfl, w⟩),
      fun w => SeqAt.RcNeAt.tuples (e := fun _ => true) h1 h2 (by omega) he X.prog X.w _ _ (by rw [hb]; exact ⟨.bl _, H, I, rfl, w⟩)⟩
  · split at h
    · rename_i hf
      cases h
      obtain ⟨f1, f2⟩ := Bool.and_eq_true_iff.mp hf
      obtain ⟨c1, c2⟩ := cmp_data I hK hu r qx qy rx ry f1 f2
      exact ⟨fun w => c1 ⟨.bl _, H, I, rfl, w⟩, fun w => c2 ⟨.bl _, H, I, rfl, w⟩⟩
    · cases h

/-- in, not in, over a list or a tuple -/
theorem in_cmp (I : Inv X pins σ H s) (hK : X.K = c.K) (hu : X.A.units + 130 < cLine) (r : RelS c g S H) {dx dy : D} {ys : List D} {x y : V} {v u : Value} (qx : Rep c g dx x) (qy : Rep c g dy y) (rx : RelV x v) (ry : RelV y u) (hs : seqD S dy = some ys) {b : Bool} (h : inL S dx ys = some b) {Q : VK} :
    (Q (.bl b) H → wpAny (model X.prog X.w) X.A (compareOp .In v u) (EP X pins σ Q) X.xe s) ∧ (Q (.bl (!b)) H → wpAny (model X.prog X.w) X.A (compareOp .NotIn v u) (EP X pins σ Q) X.xe s) := by
  unfold inL at h
  split at h
  · rename_i hf
    obtain ⟨f1, f2⟩ := Bool.and_eq_true_iff.mp hf
    obtain ⟨o1, l1, t1, d1⟩ := fit_lay f1
    obtain ⟨as, a1, _⟩ := reads_d I hK r qx rx t1
    obtain ⟨p, vs, rfl, ra, ta⟩ := rep_seq r qy hs
    cases ry
    have hall : ∀ z ∈ ys, okT (resD S z) = true := fun z hz => (fit_lay (List.all_eq_true.mp f2 z hz)).1
    have e0 : ∀ zs : List D, (∀ z ∈ zs, okT (resD S z) = true) → ((zs.map fun d => pyT (resD S d)).any fun z => PyData.eqv z (pyT (resD S dx))) = zs.any fun z => eqT (resD S z) (resD S dx) := fun zs => by
      induction zs with
      | nil => intro _; rfl
      | cons z zs ih =>
        intro hz
        rw [List.map_cons, List.any_cons, List.any_cons, eqv_py _ _ (hz z (by simp)) o1, ih fun w hw => hz w (by simp [hw])]
    have ha := e0 ys hall
    have hroom : ∀ k, k ≤ 64 → X.A.units + 1 + min k (pyT (resD S dx)).depth < cLine := fun k hk => by
      have : min k (pyT (resD S dx)).depth ≤ 64 := Nat.le_trans (Nat.min_le_left _ _) hk
      omega
    cases h
    rcases ta with ta | ta
    · obtain ⟨its, rv, ⟨o, k, ho, hc, _, hd⟩, _⟩ := I.list (by rw [hK]; exact ta)
      obtain ⟨bs, b1, b2, b3⟩ := readsAll_d I hK r ra rv f2
      exact ⟨fun w => SeqAt.in_list_reads (.list ho hc hd b1) a1 b2 l1 (hroom _ b3) (by rw [ha]; exact ⟨.bl _, H, I, rfl, w⟩), fun w => SeqAt.notIn_list_reads (.list ho hc hd b1) a1 b2 l1 (hroom _ b3) (by rw [ha]; exact ⟨.bl _, H, I, rfl, w⟩)⟩
    · obtain ⟨its, rv, ⟨o, ho, hc, k, hd⟩, _⟩ := I.tuple (by rw [hK]; exact ta)
      obtain ⟨bs, b1, b2, b3⟩ := readsAll_d I hK r ra rv f2
      exact ⟨fun w => SeqAt.in_tuple_reads (.tuple ho hc hd b1) a1 b2 l1 (hroom _ b3) (by rw [ha]; exact ⟨.bl _, H, I, rfl, w⟩), fun w => SeqAt.notIn_tuple_reads (.tuple ho hc hd b1) a1 b2 l1 (hroom _ b3) (by rw [ha]; exact ⟨.bl _, H, I, rfl, w⟩)⟩
  · cases h

def rCmp (c : Cfg) (op : CmpOp) : R2 := fun x y H Q => ∃ dx dy S g b, RelS c g S H ∧ Rep c g dx x ∧ Rep c g dy y ∧ cmpD op dx dy S = some b ∧ Q (.bl b) H
theorem non_of {d : D} (q : Rep c g d .non) : d = .non := by cases q; rfl
theorem op_cmp (O : OverC c X) (hu : X.A.units + 130 < cLine) (op : CmpOp) : OpR X (compareOp op) (rCmp c op) := by
  intro pins s σ H x y v u Q I rx ry h
  obtain ⟨dx, dy, S, g, b, r, qx, qy, hb, w⟩ := h
  unfold cmpD at hb
  split at hb
  · exact (eq_cmp I O.K hu r qx qy rx ry hb).1 w
  · obtain ⟨b', e1, e2⟩ := Option.map_eq_some_iff.mp hb
    subst e2
    exact (eq_cmp I O.K hu r qx qy rx ry e1).2 w
  · cases rep_int qx; cases rep_int qy; cases hb
    exact op_lt pins s σ H _ _ v u Q I rx ry ⟨_, _, rfl, rfl, w⟩
  · cases rep_int qx; cases rep_int qy; cases hb
    exact op_le pins s σ H _ _ v u Q I rx ry ⟨_, _, rfl, rfl, w⟩
  · cases rep_int qx; cases rep_int qy; cases hb
    exact op_gt pins s σ H _ _ v u Q I rx ry ⟨_, _, rfl, rfl, w⟩
  · cases rep_int qx; cases rep_int qy; cases hb
    exact op_ge pins s σ H _ _ v u Q I rx ry ⟨_, _, rfl, rfl, w⟩
  · cases rep_non qx; cases rep_non qy; cases hb
    exact op_isN pins s σ H _ _ v u Q I rx ry ⟨rfl, w⟩
  · rename_i hne
    cases rep_non qy; cases hb
    have hx : x ≠ .non := fun z => by subst z; exact hne (non_of qx)
    exact op_isN pins s σ H _ _ v u Q I rx ry ⟨rfl, by rw [decide_eq_false hx]; exact w⟩
  · cases rep_non qx; cases rep_non qy; cases hb
    exact op_notN pins s σ H _ _ v u Q I rx ry ⟨rfl, w⟩
  · rename_i hne
    cases rep_non qy; cases hb
    have hx : x ≠ .non := fun z => by subst z; exact hne (non_of qx)
    exact op_notN pins s σ H _ _ v u Q I rx ry ⟨rfl, by rw [decide_eq_false hx]; exact w⟩
  · cases rep_bl qx; cases rep_bl qy; cases hb
    exact op_isBl pins s σ H _ _ v u Q I rx ry ⟨_, _, rfl, rfl, w⟩
  · cases rep_bl qx; cases rep_bl qy; cases hb
    exact op_notBl pins s σ H _ _ v u Q I rx ry ⟨_, _, rfl, rfl, w⟩
  · cases rep_str qx; cases rep_str qy; cases hb
    exact op_in_str pins s σ H _ _ v u Q I rx ry ⟨_, _, rfl, rfl, w⟩
  · cases rep_str qx; cases rep_str qy; cases hb
    exact op_notin_str pins s σ H _ _ v u Q I rx ry ⟨_, _, rfl, rfl, w⟩
  · split at hb
    · rename_i ys hs
      exact (in_cmp I O.K hu r qx qy rx ry hs hb).1 w
    · split at hb
      · rename_i kvs hd
        split at hb
        · rename_i hf
          cases hb
          obtain ⟨a, rfl, d⟩ := dct_view I O.K r qy hd
          cases ry
          exact w_in I O hu r d qx rx hf fun t => ⟨.bl _, H, I.tok _, rfl, w⟩
        · cases hb
      · cases hb
  · split at hb
    · rename_i ys hs
      obtain ⟨b', e1, e2⟩ := Option.map_eq_some_iff.mp hb
      subst e2
      exact (in_cmp I O.K hu r qx qy rx ry hs e1).2 w
    · split at hb
      · rename_i kvs hd
        split at hb
        · rename_i hf
          cases hb
          obtain ⟨a, rfl, d⟩ := dct_view I O.K r qy hd
          cases ry
          exact w_notIn I O hu r d qx rx hf fun t => ⟨.bl _, H, I.tok _, rfl, w⟩
        · cases hb
      · cases hb
  · cases hb

/-- repr -/
theorem call_reprD (hK : X.K = c.K) (hu : X.A.units + 130 < cLine) (hg : X.A.guards = some []) : CallR X (.builtin "repr") (fun xs H Q => ∃ d x S g t, xs = [x] ∧ RelS c g S H ∧ Rep c g d x ∧ reprD S d = some t ∧ Q (.str t) H) := by
  intro pins s σ H xs us Q I rv h
  obtain ⟨d, x, S, g, t, rfl, r, q, ht, w⟩ := h
  cases rv with
  | cons rx rr =>
    rename_i u us
    cases rr
    unfold reprD at ht
    dsimp only at ht
    split at ht
    · rename_i hc
      cases ht
      simp only [Bool.and_eq_true, decide_eq_true_eq, Bool.not_eq_true', Bool.and_eq_false_iff] at hc
      obtain ⟨⟨⟨⟨h1, h2⟩, h3⟩, h4⟩, h5⟩ := hc
      obtain ⟨as, a1, a2⟩ := reads_d I hK r q rx h1
      have hz : (pyT (resD S d)).shown.length ≤ sizeLine := sz_le h5
      have hsys : (pyT (resD S d)).hasDict = true → sysModules ∉ as := fun hd => a2 (by
        rcases h2 with e | e
        · rw [hasD_py] at hd; rw [hd] at e; cases e
        · exact e)
      have fin : ∀ (h' : Heap) (k : Tok) (tk : Nat), (∀ b o, s.heap.get? b = some o → h'.get? b = some o) → EP X pins σ Q (.str (pyT (resD S d)).shown k) { s with heap := h', toks := tk } := fun h' k tk hk =>
        ⟨.str _, H, I.kept hk, ⟨_, rfl⟩, w⟩
      have hdep := dep_py (resD S d)
      generalize hd : pyT (resD S d) = pd at *
      cases a1 with
      | none => exact PySem.P.repr_of_none (fin _ _ _ fun _ _ e => e)
      | bool b => cases b <;> exact PySem.P.repr_of_bool (fin _ _ _ fun _ _ e => e)
      | int i t => exact PySem.P.repr_of_int (of_decide_eq_true h3) (fin _ _ _ fun _ _ e => e)
      | str x t => exact PySem.P.repr_of_str (fin _ _ _ fun _ _ e => e) (hsz := hz)
      | list k1 k2 k3 k4 => exact PySem.repr_of_reads' (Reads.list k1 k2 k3 k4) h3 hsys hg (by omega) (fun _ _ e => e) (fun h' k tk hk => fin h' k tk hk) hz
      | tuple k1 k2 k3 k4 => exact PySem.repr_of_reads' (Reads.tuple k1 k2 k3 k4) h3 hsys hg (by omega) (fun _ _ e => e) (fun h' k tk hk => fin h' k tk hk) hz
      | dict k1 k2 k3 k4 k5 => exact PySem.repr_of_reads' (Reads.dict k1 k2 k3 k4 k5) h3 hsys hg (by omega) (fun _ _ e => e) (fun h' k tk hk => fin h' k tk hk) hz
    · cases ht
end
end FT
end

section
set_option Elab.async false
set_option linter.all false
set_option maxRecDepth 100000
set_option autoImplicit false
/-! FT.Sound6: truth, subscripts, slices, built-ins by values. -/
namespace FT
open PySem L2 LamX PyProof.Rows

section
variable {X : L2.Cx} {pins : List (Addr × Obj)} {σ : L2.St} {H : Hp} {s : Shared} {c : Cfg} {g : G} {S : Store}
theorem isE_len {α β : Type} {a : List α} {b : List β} (h : a.length = b.length) : (!a.isEmpty) = !b.isEmpty := by
  cases a <;> cases b <;> simp_all
theorem tru_of (hK : X.K = c.K) (r : RelS c g S H) {d : D} {x : V} (q : Rep c g d x) {b : Bool} (h : truD S d = some b) : TruV X.K x H b := by
  cases q with
  | non => cases h; exact rfl
  | bl b => cases h; exact rfl
  | int i => cases h; exact rfl
  | str x =>
    simp only [truD] at h
    split at h
    · rename_i hz
      cases h
      refine ⟨sz_le hz, ?_⟩
      cases hl : x.length <;> simp
      omega
    · cases h
  | tup s t => cases h; exact .inr (.inl ⟨_, by rw [hK]; exact sqT_mono r.sub s, isE_len t.length⟩)
  | lst s t => cases h; exact .inl ⟨_, by rw [hK]; exact (s.mono r.sub).sq, isE_len t.length⟩
  | @obj i a e =>
    simp only [truD] at h
    split at h
    · rename_i ys hs
      cases h
      obtain ⟨_, vs, h1, h2⟩ := r.live i a _ e hs
      exact .inl ⟨_, SqL.of h1, isE_len h2.length⟩
    · cases h
  | dct => cases h
  | exc => cases h
  | exl => cases h

/-- a[i] -/
theorem atI_rep {c : Cfg} {g : G} {ds : List D} {vs : List V} (r : RepAll c g ds vs) {k : Int} {d : D} (h : atI ds k = some d) : ∃ v, atI vs k = some v ∧ Rep c g d v := by
  unfold atI at h ⊢
  rw [← r.length]
  cases e : ixN ds.length k with
  | none => rw [e] at h; cases h
  | some j =>
    rw [e] at h
    exact r.get (i := j) h
def rSub (c : Cfg) : R2 := fun x y H Q => ∃ dx dy S g d, RelS c g S H ∧ Rep c g dx x ∧ Rep c g dy y ∧ subD S dx dy = some d ∧ ∀ v, Rep c g d v → Q v H
theorem ix_sub (O : OverC c X) (hu : X.A.units + 130 < cLine) : IxR X (rSub c) := by
  have hK := O.K
  intro value slice pins s σ H x y v u Q I rx ry h hs
  obtain ⟨dx, dy, S, g, d, r, qx, qy, hd, w⟩ := h
  unfold subD at hd
  split at hd
  · rename_i z k
    split at hd
    · rename_i hz
      cases rep_str qx; cases rep_int qy
      obtain ⟨c0, e1, e2⟩ := Option.map_eq_some_iff.mp hd
      subst e2
      exact ix_str value slice pins s σ H _ _ v u Q I rx ry ⟨_, _, c0, rfl, rfl, sz_le hz, e1, w _ (.str _)⟩ hs
    · cases hd
  · split at hd
    · rename_i xs e1
      cases rep_int qy
      obtain ⟨p, vs, rfl, ra, ta⟩ := rep_seq r qx e1
      obtain ⟨v0, e2, q2⟩ := atI_rep ra hd
      rcases ta with ta | ta
      · exact ix_list value slice pins s σ H _ _ v u Q I rx ry ⟨p, vs, _, v0, rfl, rfl, by rw [hK]; exact ta, e2, w _ q2⟩ hs
      · exact ix_tup value slice pins s σ H _ _ v u Q I rx ry ⟨p, vs, _, v0, rfl, rfl, by rw [hK]; exact ta, e2, w _ q2⟩ hs
    · cases hd
  · split at hd
    · rename_i kvs hk
      split at hd
      · rename_i hf
        obtain ⟨a, rfl, dd⟩ := dct_view I hK r qx hk
        cases rx
        refine tail_any (T := "dict") (dd.ty rfl) PySem.F.slot_dict_getitem.lookup ?_ hs
        exact w_get I O hu r dd qy ry hf hd fun v0 w0 t q0 r0 => ⟨v0, H, I.tok _, r0, w _ q0⟩
      · cases hd
    · cases hd

/-- a[lo:hi] -/
theorem cut_rep {c : Cfg} {g : G} {ds : List D} {vs : List V} (r : RepAll c g ds vs) (lo hi : Option Int) : RepAll c g (cutL ds lo hi) (cutV vs lo hi) := by
  unfold cutL cutV
  rw [r.length]
  exact (r.drop _).take _
theorem cut_whole {α : Type} {xs : List α} {lo hi : Option Int} (h : HT.sIx xs.length 0 lo = 0 ∧ HT.sIx xs.length xs.length hi = xs.length) : cutL xs lo hi = xs := by
  unfold cutL
  rw [h.1, h.2]; simp
def rSlice (c : Cfg) (live : Bool) : V → Option Int → Option Int → Hp → VK → Prop := fun x lo hi H Q => ∃ dx S g d, RelS c g S H ∧ Rep c g dx x ∧ sliceD S dx lo hi = some d ∧ Gets c g S H live Q d
theorem sl_slice (hK : X.K = c.K) (live : Bool) : SlR X (rSlice c live) := by
  intro pins s σ H x v vl vu lo hi sl Q I rx hs pl pu h
  obtain ⟨dx, S, g, d, r, qx, hd, w⟩ := h
  unfold sliceD at hd
  split at hd
  · split at hd
    · rename_i hz
      cases rep_str qx; cases hd
      exact sl_str pins s σ H _ v vl vu lo hi sl Q I rx hs pl pu ⟨_, rfl, sz_le hz, w.flat r (.str _) (fun _ z => by cases z)⟩
    · cases hd
  · rename_i xs
    obtain ⟨p, vs, rfl, ra, ta⟩ := rep_tup r qx
    cases hd
    refine sl_tupA pins s σ H _ v vl vu lo hi sl Q I rx hs pl pu ⟨p, vs, rfl, by rw [hK]; exact ta, fun hw => ?_, fun _ => w.tup r (cut_rep ra lo hi)⟩
    rw [← ra.length] at hw
    rw [cut_whole hw] at w
    exact w.flat r qx (fun _ z => by cases z)
  · obtain ⟨xs, e1, e2⟩ := Option.map_eq_some_iff.mp hd
    subst e2
    obtain ⟨p, vs, rfl, ra, ta⟩ := rep_lst r qx e1
    exact sl_list pins s σ H _ v vl vu lo hi sl Q I rx hs pl pu ⟨p, vs, rfl, by rw [hK]; exact ta.sq, w.list r (cut_rep ra lo hi)⟩

/-! ### built-ins -/
theorem len_rep (hK : X.K = c.K) (r : RelS c g S H) {d : D} {x : V} (q : Rep c g d x) {n : Int} (h : lenD S d = some n) : (∃ z, x = .str z ∧ z.length ≤ sizeLine ∧ n = z.length) ∨ ∃ p ys, x = .ref p ∧ (SqL X.K H p ys ∨ SqT X.K H p ys) ∧ n = ys.length := by
  unfold lenD at h
  split at h
  · split at h
    · rename_i hz
      cases rep_str q; cases h
      exact .inl ⟨_, rfl, sz_le hz, rfl⟩
    · cases h
  · obtain ⟨xs, e1, e2⟩ := Option.map_eq_some_iff.mp h
    subst e2
    obtain ⟨p, vs, rfl, ra, ta⟩ := rep_seq r q e1
    exact .inr ⟨p, vs, rfl, by rw [hK]; exact ta, by rw [ra.length]⟩
theorem call_lenD (hK : X.K = c.K) : CallR X (.builtin "len") (fun xs H Q => ∃ d x S g n, xs = [x] ∧ RelS c g S H ∧ Rep c g d x ∧ lenD S d = some n ∧ Q (.int n) H) := by
  intro pins s σ H xs us Q I rv h
  obtain ⟨d, x, S, g, n, rfl, r, q, hn, w⟩ := h
  rcases len_rep hK r q hn with ⟨z, rfl, hz, rfl⟩ | ⟨p, ys, rfl, hs, rfl⟩
  · exact call_len_str pins s σ H _ us Q I rv ⟨z, rfl, hz, w⟩
  · exact call_len_seq pins s σ H _ us Q I rv ⟨p, ys, rfl, hs, w⟩
theorem bools_rep : ∀ {ds : List D} {vs : List V} {bs : List Bool}, RepAll c g ds vs → boolsOf ds = some bs → vs = bs.map V.bl
  | [], _, _, .nil, h => by cases h; rfl
  | .bl b :: ds, _, _, .cons q qs, h => by
    simp only [boolsOf] at h
    obtain ⟨cs, e1, e2⟩ := Option.map_eq_some_iff.mp h
    subst e2
    rw [rep_bl q, bools_rep qs e1]; rfl
theorem call_allD (hK : X.K = c.K) (hc : X.calm = true) : CallR X (.builtin "all") (fun xs H Q => ∃ d x S g ys bs, xs = [x] ∧ RelS c g S H ∧ Rep c g d x ∧ lstD S d = some ys ∧ boolsOf ys = some bs ∧ Q (.bl (bs.all id)) H) := by
  intro pins s σ H xs us Q I rv h
  obtain ⟨d, x, S, g, ys, bs, rfl, r, q, hl, hb, w⟩ := h
  obtain ⟨p, vs, rfl, ra, ta⟩ := rep_lst r q hl
  have e := bools_rep ra hb
  subst e
  exact cr_all hc pins s σ H _ us Q I rv ⟨p, bs, rfl, by rw [hK]; exact ta.sq, w⟩
theorem call_anyD (hK : X.K = c.K) (hc : X.calm = true) : CallR X (.builtin "any") (fun xs H Q => ∃ d x S g ys bs, xs = [x] ∧ RelS c g S H ∧ Rep c g d x ∧ lstD S d = some ys ∧ boolsOf ys = some bs ∧ Q (.bl (bs.any id)) H) := by
  intro pins s σ H xs us Q I rv h
  obtain ⟨d, x, S, g, ys, bs, rfl, r, q, hl, hb, w⟩ := h
  obtain ⟨p, vs, rfl, ra, ta⟩ := rep_lst r q hl
  have e := bools_rep ra hb
  subst e
  exact cr_any hc pins s σ H _ us Q I rv ⟨p, bs, rfl, by rw [hK]; exact ta.sq, w⟩
/-- the built-in classes that isinstance names -/
def tyName : Nat → String
  | 0 => "int" | 1 => "bool" | 2 => "str" | 3 => "tuple" | 4 => "list" | _ => "dict"
theorem isi_rep (hK : X.K = c.K) (r : RelS c g S H) {d : D} {x : V} (q : Rep c g d x) {t : Nat} (ht : t < 6) {b : Bool} (h : isiD S t d = some b) :
    (∃ T : String, TyX X.K H x (.type T) ∧ kitB T (tyName t) = some b) ∨ (dctD S d).isSome = true ∧ kitB "dict" (tyName t) = some b := by
  have ht' : t = 0 ∨ t = 1 ∨ t = 2 ∨ t = 3 ∨ t = 4 ∨ t = 5 := by omega
  cases q with
  | non => cases h; exact .inl ⟨_, .base .non, by rcases ht' with rfl | rfl | rfl | rfl | rfl | rfl <;> decide +kernel⟩
  | bl b => cases h; exact .inl ⟨_, .base (.bl b), by rcases ht' with rfl | rfl | rfl | rfl | rfl | rfl <;> decide +kernel⟩
  | int i => cases h; exact .inl ⟨_, .base (.int i), by rcases ht' with rfl | rfl | rfl | rfl | rfl | rfl <;> decide +kernel⟩
  | str x => cases h; exact .inl ⟨_, .base (.str x), by rcases ht' with rfl | rfl | rfl | rfl | rfl | rfl <;> decide +kernel⟩
  | @tup a vs ds s t =>
    cases h
    refine .inl ⟨"tuple", ?_, by rcases ht' with rfl | rfl | rfl | rfl | rfl | rfl <;> decide +kernel⟩
    rcases s with (s | ⟨o, s⟩) | ⟨o, its, n, e1, e2, _⟩
    · exact .base (.tup (r.sub _ _ s))
    · exact .fTuple (r.sub _ _ s)
    · exact .kTuple (by rw [hK]; exact e1) e2
  | @lst a vs ds s t =>
    cases h
    refine .inl ⟨"list", ?_, by rcases ht' with rfl | rfl | rfl | rfl | rfl | rfl <;> decide +kernel⟩
    rcases s with (s | ⟨o, s⟩) | ⟨its, n, e, _⟩
    · exact .base (.lst (r.sub _ _ s))
    · exact .base (.frz (r.sub _ _ s))
    · exact .kList (by rw [hK]; exact e) rfl
  | dct e => cases h; exact .inr ⟨rfl, by rcases ht' with rfl | rfl | rfl | rfl | rfl | rfl <;> decide +kernel⟩
  | @obj i a e =>
    simp only [isiD] at h
    split at h
    · rename_i ys hs
      cases h
      obtain ⟨_, vs, h1, h2⟩ := r.live i a _ e hs
      exact .inl ⟨"list", .base (.lst h1), by rcases ht' with rfl | rfl | rfl | rfl | rfl | rfl <;> decide +kernel⟩
    · rename_i ys hs
      cases h
      exact .inr ⟨by simp [dctD, hs], by rcases ht' with rfl | rfl | rfl | rfl | rfl | rfl <;> decide +kernel⟩
    · cases h
  | exc => cases h
  | exl => cases h
theorem call_isiD (hK : X.K = c.K) (t : Nat) (ht : t < 6) : CallR X (.builtin "isinstance") (fun xs H Q => ∃ d x S g b, xs = [x, .ty (tyName t)] ∧ RelS c g S H ∧ Rep c g d x ∧ isiD S t d = some b ∧ Q (.bl b) H) := by
  intro pins s σ H xs us Q I rv h
  obtain ⟨d, x, S, g, b, rfl, r, q, hb, w⟩ := h
  rcases isi_rep hK r q ht hb with ⟨T, h1, h2⟩ | ⟨h1, h2⟩
  case inr =>
    obtain ⟨kvs, hk⟩ := Option.isSome_iff_exists.mp h1
    obtain ⟨a, rfl, dd⟩ := dct_view I hK r q hk
    match us, rv with
    | [_, u2], .cons rx (.cons rt .nil) =>
      cases rx
      have e2 := (ClsV.ty (tyName t)).eq rt
      subst e2
      obtain ⟨o, ho, hc⟩ := dd.ty (sh := s) rfl
      exact PySem.W.kia_one PySem.W.kitx_dict I.kIn ⟨o, ho, hc⟩ (kit_ty h2) (fun z => nomatch z) fun tk => ⟨.bl b, H, I.tok tk, rfl, w⟩
  exact call_isi pins s σ H _ us Q I rv ⟨x, _, _, _, b, rfl, .ty _, h1, kit_ty h2, w⟩
end
end FT
end

section
set_option Elab.async false
set_option linter.all false
set_option maxRecDepth 100000
set_option autoImplicit false
/-! FT.Sound7: list(), tuple(), int(), min; methods of lists; a[i] = v. -/
namespace FT
open PySem L2 LamX PyProof.Rows

section
variable {X : L2.Cx} {pins : List (Addr × Obj)} {σ : L2.St} {H : Hp} {s : Shared} {c : Cfg} {g : G} {S : Store}

/-- what is wanted of an answer (no exception) -/
def Wants (c : Cfg) (g : G) (Q : V → Hp → Prop) : R D → Prop
  | .ok d S' => ∀ v H' g', g.le g' → RelS c g' S' H' → Rep c g' d v → Q v H'
  | _ => False
theorem Wants.gets {Q : V → Hp → Prop} {xs : List D} {live : Bool} (r : RelS c g S H) (w : Wants c g Q (newL live xs S)) : xs.length ≤ sizeLine ∧ Gets c g S H live Q (.lst xs) := by
  unfold newL at w
  split at w
  · rename_i hz
    refine ⟨sz_le hz, ?_⟩
    cases live with
    | true => exact ⟨xs, rfl, fun p vs hp q => w _ _ (g.new p) G.le_new (r.alloc hp q) (.obj (G.new_at r))⟩
    | false => exact w
  · exact w.elim
theorem Wants.flat {Q : V → Hp → Prop} {d : D} {v : V} (r : RelS c g S H) (w : Wants c g Q (.ok d S)) (q : Rep c g d v) : Q v H := w v H g (G.le.refl g) r q
theorem Wants.fresh {Q : V → Hp → Prop} {xs : List D} {vs : List V} (r : RelS c g S H) (w : Wants c g Q (.ok (.tup xs) S)) (q : RepAll c g xs vs) : ∀ p, H p = none → Q (.ref p) (upd H p (.tup vs)) := fun p hp => by
  obtain ⟨hl, r'⟩ := r.fresh (o := .tup vs) hp (fun ps z => HO.noConfusion z)
  exact w _ _ _ hl r' (.tup (.inl (.inl upd_same)) (q.mono hl.tolt))
theorem Wants.ofO {Q : V → Hp → Prop} {o : Option D} (w : Wants c g Q (R.ofO o S)) : ∃ d, o = some d ∧ Wants c g Q (.ok d S) := by
  cases o with
  | some d => exact ⟨d, rfl, w⟩
  | none => exact w.elim

theorem call_listD : CallR X (.type "list") (fun xs H Q => X.K = c.K ∧ ∃ live d x S g, xs = [x] ∧ RelS c g S H ∧ Rep c g d x ∧ Wants c g Q (callBD .list live [d] S)) := by
  intro pins s σ H xs us Q I rv h
  obtain ⟨hK, live, d, x, S, g, rfl, r, q, w⟩ := h
  unfold callBD at w
  dsimp only at w
  split at w
  · rename_i ys hs
    obtain ⟨p, vs, rfl, ra, ta⟩ := rep_seq r q hs
    exact call_list_of pins s σ H _ us Q I rv ⟨p, vs, rfl, by rw [hK]; exact ta, (w.gets r).2.list r ra⟩
  · exact w.elim
theorem call_tupleD : CallR X (.type "tuple") (fun xs H Q => X.K = c.K ∧ ∃ live d x S g, xs = [x] ∧ RelS c g S H ∧ Rep c g d x ∧ Wants c g Q (callBD .tuple live [d] S)) := by
  intro pins s σ H xs us Q I rv h
  obtain ⟨hK, live, d, x, S, g, rfl, r, q, w⟩ := h
  obtain ⟨d', e, w⟩ := w.ofO
  unfold tupleD at e
  split at e
  · cases e
    obtain ⟨p, vs, rfl, ra, ta⟩ := rep_tup r q
    exact call_tuple_of pins s σ H _ us Q I rv ⟨p, vs, rfl, .inr ⟨by rw [hK]; exact ta, w.flat r q⟩⟩
  · obtain ⟨xs, e1, e2⟩ := Option.map_eq_some_iff.mp e
    subst e2
    obtain ⟨p, vs, rfl, ra, ta⟩ := rep_lst r q e1
    exact call_tuple_of pins s σ H _ us Q I rv ⟨p, vs, rfl, .inl ⟨by rw [hK]; exact ta.sq, w.fresh r ra⟩⟩
theorem call_intD : CallR X (.type "int") (fun xs H Q => ∃ live d x S g, xs = [x] ∧ RelS c g S H ∧ Rep c g d x ∧ Wants c g Q (callBD .int live [d] S)) := by
  intro pins s σ H xs us Q I rv h
  obtain ⟨live, d, x, S, g, rfl, r, q, w⟩ := h
  obtain ⟨d', e, w⟩ := w.ofO
  unfold intD at e
  split at e
  · cases e
    cases rep_int q
    exact call_int1 pins s σ H _ us Q I rv (.inl ⟨_, rfl, w.flat r (.int _)⟩)
  · cases e
    cases rep_bl q
    exact call_int1 pins s σ H _ us Q I rv (.inr ⟨_, rfl, w.flat r (.int _)⟩)
  · cases e
theorem call_min2D (hc : X.calm = true) : CallR X (.builtin "min") (fun xs H Q => ∃ live d x e y S g, xs = [x, y] ∧ RelS c g S H ∧ Rep c g d x ∧ Rep c g e y ∧ Wants c g Q (callBD .min2 live [d, e] S)) := by
  intro pins s σ H xs us Q I rv h
  obtain ⟨live, d, x, e, y, S, g, rfl, r, q, q', w⟩ := h
  obtain ⟨d', e, w⟩ := w.ofO
  unfold min2D at e
  split at e
  · cases e
    cases rep_int q; cases rep_int q'
    exact call_min2 hc pins s σ H _ us Q I rv ⟨_, _, rfl, w.flat r (.int _)⟩
  · cases e

/-! ### methods of lists -/
theorem rep_live (r : RelS c g S H) {id : Nat} {x : V} (q : Rep c g (.obj id) x) {xs : List D} (h : S[id]? = some (.lst xs)) : ∃ a vs, x = .ref a ∧ g.φ[id]? = some a ∧ H a = some (.lst vs) ∧ RepAll c g xs vs := by
  cases q with
  | @obj _ a e =>
    obtain ⟨_, vs, h1, h2⟩ := r.live id a _ e h
    exact ⟨a, vs, rfl, e, h1, h2⟩
theorem mt_appendD : MtM X "list.append" (fun x xs H Q => ∃ o d y S g, xs = [y] ∧ RelS c g S H ∧ Rep c g o x ∧ Rep c g d y ∧ Wants c g Q (appendD o d S)) := by
  intro pins s σ H x xs v us Q I rx rv h
  obtain ⟨o, d, y, S, g, rfl, r, q, q', w⟩ := h
  unfold appendD at w
  split at w
  · rename_i id
    split at w
    · rename_i zs hs
      split at w
      · rename_i hl
        obtain ⟨a, vs, rfl, e, h1, h2⟩ := rep_live r q hs
        refine mt_append pins s σ H _ _ v us Q I rx rv ⟨a, vs, y, rfl, rfl, h1, by rw [← h2.length]; exact hl, ?_⟩
        exact w _ _ g (G.le.refl g) (r.write e hs (h2.append (.cons q' .nil))) .non
      · exact w.elim
    · exact w.elim
  · exact w.elim
theorem lst_exact (I : Inv X pins σ H s) (hK : X.K = c.K) {a : Addr} {vs : List V} (h : LsO c.K H a vs) : ∃ (its : List Value) (n : Nat), s.heap.get? a = some { cls := .type "list", data := .seq its.toArray n } ∧ Vals vs its ∧ vs.length ≤ sizeLine := by
  rcases h with h | ⟨its, n, e, hz, r⟩
  · obtain ⟨z, its, n, r, e⟩ := h.ok I.hok
    exact ⟨its, n, e, r, z⟩
  · exact ⟨its, n, I.kIn a _ (by rw [hK]; exact e), r, hz⟩
theorem mt_extendD (hK : X.K = c.K) : MtM X "list.extend" (fun x xs H Q => ∃ o d y S g, xs = [y] ∧ RelS c g S H ∧ Rep c g o x ∧ Rep c g d y ∧ Wants c g Q (extendD o d S)) := by
  intro pins s σ H x xs v us Q I rx rv h
  obtain ⟨o, d, y, S, g, rfl, r, q, q', w⟩ := h
  unfold extendD at w
  split at w
  · rename_i id ys
    split at w
    · rename_i zs hs
      split at w
      · rename_i hl
        obtain ⟨a, vs, rfl, e, h1, h2⟩ := rep_live r q hs
        cases rx
        obtain ⟨u, rfl, ru⟩ := rv.one
        cases q' with
        | @lst b ws _ hb qs =>
          cases ru
          obtain ⟨its2, n2, e2, r2, z2⟩ := lst_exact I hK (hb.mono r.sub)
          obtain ⟨z, its, n, r1, hlen, e1⟩ := I.lstM h1
          have l1 := h2.length
          have l2 := qs.length
          have l3 := r2.length
          have hsz : its.toArray.size + its2.toArray.size ≤ sizeLine := by rw [List.size_toArray, List.size_toArray]; omega
          have hlong : ¬ (!its.toArray.isEmpty && Builtin.List.listTooLong (its.toArray.size + its2.toArray.size)) = true := by
            rw [notLongL hsz, Bool.and_false]
            exact Bool.false_ne_true
          refine call_meets PySem.F.slot_list_extend ⟨_, e1, rfl⟩ PySem.F.entry_list_extend (PySem.F.args_list_extend_2 _ _) (PySem.AutoSeq1.list_extend_list_list_0 a its.toArray n b its2.toArray n2 hlong (by rw [List.size_toArray]; omega) (by omega)) ⟨e1, e2, ?_⟩
          refine ⟨.non, _, I.lset (its' := its ++ its2) h1 e1 (by simp) (r1.append r2) ?_, rfl, ?_⟩
          · rw [List.length_append]
            omega
          · exact w _ _ g (G.le.refl g) (r.write e hs (h2.append qs)) .non
      · exact w.elim
    · exact w.elim
  · exact w.elim
theorem mt_getD (O : OverC c X) (hu : X.A.units + 130 < cLine) : MtM X "dict.get" (fun x xs H Q => ∃ o k d y z S g, xs = [y, z] ∧ RelS c g S H ∧ Rep c g o x ∧ Rep c g k y ∧ Rep c g d z ∧ Wants c g Q (getD o k d S)) := by
  intro pins s σ H x xs v us Q I rx rv h
  obtain ⟨o, k, d, y, z, S, g, rfl, r, q, qk, qd, w⟩ := h
  unfold getD at w
  split at w
  · rename_i kvs hd
    split at w
    · rename_i hf
      obtain ⟨a, rfl, dd⟩ := dct_view I O.K r q hd
      cases rx
      obtain ⟨u1, u2, rfl, ru, rw2⟩ := rv.two
      exact w_getOr I O hu r dd qk ru hf qd rw2 fun v0 w0 t q0 r0 => ⟨v0, H, I.tok _, r0, w _ _ g (G.le.refl g) r q0⟩
    · exact w.elim
  · exact w.elim
theorem mt_popAtD : MtM X "list.pop" (fun x xs H Q => ∃ o d y S g, xs = [y] ∧ RelS c g S H ∧ Rep c g o x ∧ Rep c g d y ∧ Wants c g Q (popAtD o d S)) := by
  intro pins s σ H x xs v us Q I rx rv h
  obtain ⟨o, d, y, S, g, rfl, r, q, q', w⟩ := h
  unfold popAtD at w
  split at w
  · rename_i id k
    split at w
    · rename_i zs hs
      split at w
      · rename_i j hj
        split at w
        · rename_i d0 hd
          split at w
          · rename_i hl
            obtain ⟨a, vs, rfl, e, h1, h2⟩ := rep_live r q hs
            cases rep_int q'
            obtain ⟨z1, z2, z3, z4⟩ := ixN_seq hj
            obtain ⟨v0, hv, qv⟩ := h2.get hd
            have hn := line63
            refine mt_popAt pins s σ H _ _ v us Q I rx rv ⟨a, vs, k, j, v0, rfl, rfl, h1, by omega, by omega, by rw [← h2.length]; exact z1, hv, ?_⟩
            exact w _ _ g (G.le.refl g) (r.write e hs (h2.eraseIdx j)) qv
          · exact w.elim
        · exact w.elim
      · exact w.elim
    · exact w.elim
  · exact w.elim
theorem flat_rep {d : D} {v : V} (q : Rep c g d v) (f : flatD d = true) : flatV v = true := by
  cases q <;> first | rfl | cases f
theorem flats_rep : ∀ {ds : List D} {vs : List V}, RepAll c g ds vs → ds.all flatD = true → vs.all flatV = true
  | _, _, .nil, _ => rfl
  | _, _, .cons q t, h => by
    simp only [List.all_cons, Bool.and_eq_true] at h ⊢
    exact ⟨flat_rep q h.1, flats_rep t h.2⟩
theorem eqV_rep {d e : D} {v u : V} (q : Rep c g d v) (q' : Rep c g e u) (f : flatD d = true) (f' : flatD e = true) : eqV v u = eqT d e := by
  cases q <;> first | (cases f; done) | (cases q' <;> first | (cases f'; done) | rfl | simp [eqV, eqT])
theorem get_back : ∀ {ds : List D} {vs : List V} {i : Nat} {v : V}, RepAll c g ds vs → vs[i]? = some v → ∃ d, ds[i]? = some d ∧ Rep c g d v
  | _, _, _, _, .nil, e => by simp at e
  | _, _, 0, _, .cons r _, e => by simp at e; subst e; exact ⟨_, rfl, r⟩
  | _, _, i + 1, v, .cons r t, e => by
    obtain ⟨u, h1, h2⟩ := get_back (i := i) (v := v) t (by simpa using e)
    exact ⟨u, by simpa using h1, h2⟩
theorem mt_indexF : MtR X "list.index" (fun x xs H Q => X.K = c.K ∧ ∃ o d y S g, xs = [y] ∧ RelS c g S H ∧ Rep c g o x ∧ Rep c g d y ∧ Wants c g Q (methD .index o [d] S)) := by
  intro pins s σ H x xs v us Q I rx rv h
  obtain ⟨hK, o, d, y, S, g, rfl, r, q, q', w⟩ := h
  obtain ⟨d', e, w⟩ := w.ofO
  obtain ⟨n, e1, e2⟩ := Option.map_eq_some_iff.mp e
  subst e2
  obtain ⟨ys, e3, e4⟩ := Option.bind_eq_some_iff.mp e1
  obtain ⟨p, vs, rfl, ra, ta⟩ := rep_lst r q e3
  unfold indexL at e4
  split at e4
  · rename_i hf
    obtain ⟨f1, f2⟩ := Bool.and_eq_true_iff.mp hf
    obtain ⟨h1, h2, h3⟩ := List.findIdx?_eq_some_iff_getElem.mp e4
    have hj : ys[n]? = some ys[n] := List.getElem?_eq_getElem h1
    obtain ⟨z, hz, qz⟩ := ra.get hj
    have fl : ∀ d ∈ ys, flatD d = true := List.all_eq_true.mp f2
    refine mt_index pins s σ H _ _ v us Q I rx rv ⟨p, vs, y, n, z, rfl, rfl, by rw [hK]; exact ta.sq, flat_rep q' f1, flats_rep ra f2, hz, ?_, fun m z' hm hz' => ?_, w.flat r (.int _)⟩
    · rw [eqV_rep qz q' (fl _ (List.getElem_mem h1)) f1]; exact h2
    · obtain ⟨d2, hd2, q2⟩ := get_back ra hz'
      obtain ⟨hm2, hm3⟩ := List.getElem?_eq_some_iff.mp hd2
      rw [eqV_rep q2 q' (fl _ (List.mem_of_getElem? hd2)) f1]
      have := h3 m hm
      rw [hm3] at this
      simpa using this
  · cases e4
theorem mt_countD (hK : X.K = c.K) (hu : X.A.units + 130 < cLine) : MtR X "list.count" (fun x xs H Q => ∃ o d y S g, xs = [y] ∧ RelS c g S H ∧ Rep c g o x ∧ Rep c g d y ∧ Wants c g Q (methD .count o [d] S)) := by
  intro pins s σ H x xs v us Q I rx rv h
  obtain ⟨o, d, y, S, g, rfl, r, q, q', w⟩ := h
  obtain ⟨d', e, w⟩ := w.ofO
  obtain ⟨n, e1, e2⟩ := Option.map_eq_some_iff.mp e
  subst e2
  obtain ⟨ys, e3, e4⟩ := Option.bind_eq_some_iff.mp e1
  obtain ⟨p, vs, rfl, ra, ta⟩ := rep_lst r q e3
  obtain ⟨u, rfl, ry⟩ := rv.one
  cases rx
  unfold countL at e4
  split at e4
  · rename_i hf
    cases e4
    obtain ⟨f1, f2⟩ := Bool.and_eq_true_iff.mp hf
    obtain ⟨o1, l1, t1, d1⟩ := fit_lay f1
    obtain ⟨as, a1, _⟩ := reads_d I hK r q' ry t1
    obtain ⟨its, rv, ⟨ob, k, ho, hc, _, hd⟩, _⟩ := I.list (by rw [hK]; exact ta.sq)
    obtain ⟨bs, b1, b2, b3⟩ := readsAll_d I hK r ra rv f2
    have hcount : ∀ zs : List D, (∀ z ∈ zs, okT (resD S z) = true) → ((zs.map fun d => pyT (resD S d)).countP fun z => PyData.eqv z (pyT (resD S d))) = zs.countP fun z => eqT (resD S z) (resD S d) := fun zs => by
      induction zs with
      | nil => intro _; rfl
      | cons z zs ih =>
        intro hz
        rw [List.map_cons, List.countP_cons, List.countP_cons, eqv_py _ _ (hz z (by simp)) o1, ih fun w hw => hz w (by simp [hw])]
    have hall : ∀ z ∈ ys, okT (resD S z) = true := fun z hz => (fit_lay (List.all_eq_true.mp f2 z hz)).1
    refine SeqAt.count_list_data (vs := its.toArray) ⟨ob, ho, hc, k, hd⟩ b1 a1 (PyData.plainAll_of_canLay0 _ b2) (PyData.plain_of_canLay0 _ l1) ?_ ?_
    · have : min (PyData.depthAll (ys.map fun d => pyT (resD S d))) (pyT (resD S d)).depth ≤ 64 := Nat.le_trans (Nat.min_le_left _ _) b3
      omega
    · rw [hcount ys hall]
      exact ⟨.int _, H, I.tok _, ⟨_, rfl⟩, w.flat r (.int _)⟩
  · cases e4

/-! ### a[i] = v -/
def WantsU (c : Cfg) (g : G) (Q : Hp → Prop) : R Unit → Prop
  | .ok _ S' => ∀ H' g', g.le g' → RelS c g' S' H' → Q H'
  | _ => False
theorem set_itemD (O : OverC c X) (hu : X.A.units + 130 < cLine) : PSet X (fun o i v H Q => ∃ dO dI dV S g, RelS c g S H ∧ Rep c g dO o ∧ Rep c g dI i ∧ Rep c g dV v ∧ WantsU c g Q (setD dO dI dV S)) := by
  intro pins s σ H o i v ov iv u Q I ro ri rv h
  obtain ⟨dO, dI, dV, S, g, r, q1, q2, q3, w⟩ := h
  unfold setD at w
  split at w
  · rename_i id k
    split at w
    · rename_i zs hs
      split at w
      · rename_i j hj
        obtain ⟨a, vs, rfl, e, h1, h2⟩ := rep_live r q1 hs
        cases rep_int q2
        refine set_list pins s σ H _ _ v ov iv u Q I ro ri rv ⟨a, vs, k, j, rfl, rfl, h1, by rw [← h2.length]; exact hj, ?_⟩
        exact w _ g (G.le.refl g) (r.write e hs (h2.set q3 j))
      · exact w.elim
    · exact w.elim
  · rename_i id k _
    split at w
    · rename_i kvs hs
      split at w
      · rename_i hf
        obtain ⟨f1, f2⟩ := Bool.and_eq_true_iff.mp hf
        obtain ⟨a, o, rfl, e, h1, dd⟩ := dct_live I r q1 hs
        cases ro
        exact w_set I O hu r e hs h1 dd q2 ri f1 (of_decide_eq_true f2) q3 rv fun s' H' J r' => ⟨H', J, w _ g (G.le.refl g) r'⟩
      · exact w.elim
    · exact w.elim
  · exact w.elim
end
end FT
end

section
set_option Elab.async false
set_option linter.all false
set_option maxRecDepth 100000
set_option autoImplicit false
/-! FT.Ctx: what a def promises (its calls run under no guard of repr), and its proof from a body. -/
namespace FT
open PySem L2 LamX PyProof.Rows

structure FnG (c : Cfg) (k : Nat) (f : Addr) (fd : FuncData) (ps : List Str) (sp : Sp) : Prop where
  len : ∀ vs H Q E, sp vs H Q E → vs.length = ps.length
  run : ∀ (A : Around) (outer : List PySem.Env) (s : Shared) (H : Hp) (args : Args) (us : List Value) (vs : List V) (Q : VK) (E : XK), A.guards = some [] → Room k A → Env0 c.P c.w c.K c.mg c.base A outer s H →
    BindsTo s fd args (ps.zip us) → Vals vs us → sp vs H Q E → codeAny (model c.P c.w) A (.call (.ref f) args) (CR (L2.CX c.P c.w) outer c.P c.w H s Q E) s
theorem FnG.mono {c : Cfg} {j k : Nat} {f : Addr} {fd : FuncData} {ps : List Str} {sp : Sp} (F : FnG c j f fd ps sp) (h : j ≤ k) : FnG c k f fd ps sp :=
  ⟨F.len, fun A outer s H args us vs Q E hg hr => F.run A outer s H args us vs Q E hg (hr.mono h)⟩

/-- the context of a def's body -/
abbrev bodyX (c : Cfg) (N : List Str) (qual : Str) (sc : Scope) (f : Addr) (cd : Value) (A : Around) (outer : List PySem.Env) (s : Shared) (H : Hp) (E : XK) : L2.Cx :=
  cxOf (L2.CX c.P c.w) c.P c.w c.K c.mg c.base N qual sc f cd A outer s H E
theorem fnG_body {c : Cfg} {k : Nat} {f : Addr} {name qual : Str} {st : Stmt} {fd : FuncData} {N ps : List Str} {sp : Sp} (F : Fun c.K name qual st f fd) (S : FnScope N ps (defScope st)) (len : ∀ vs H Q E, sp vs H Q E → vs.length = ps.length)
    (hb : ∀ (cd : Value) (A : Around) (outer : List PySem.Env) (s : Shared) (H : Hp) (vs : List V) (Q : VK) (E : XK), fd.code = cd → (A.deeper (envOfC qual (defScope st) s.heap.objs.size f cd)).guards = some [] → Room k (A.deeper (envOfC qual (defScope st) s.heap.objs.size f cd)) → sp vs H Q E →
      ∃ t, PSs (bodyX c N qual (defScope st) f cd A outer s H E) (defBody st) t ∧ t { nx := fun _ H' => Q .non H', rt := Q } (start N vs) H) : FnG c (k + 1) f fd ps sp where
  len := len
  run := by
    intro A outer s H args us vs Q E hg hr e0 hbd rv hsp
    obtain ⟨oc, od, kV, doc, pm, an, cd, ct, osl, hfd, lk, hcd⟩ := F.ex
    subst hfd
    have keep : ∀ b o, c.base.get? b = some o → s.heap.get? b = some o := fun b o e => (e0.bs b o e).1
    have KX := e0.mod.kin.keeps keep
    refine codeAny_call_function hr.depth (KX _ _ lk) rfl S.co S.gen rfl (PySem.W.codeRec_of KX hcd) (hbd _ _ _ _ (wpAny_newFunctionEnv_cells S.kind (fun y hy => ?_) fun env henv s1 x => ?_))
    · have hy1 : y.1 ∈ ps := (List.of_mem_zip (a := y.1) (b := y.2) hy).1
      exact (S.par y.1 hy1).imp id fun q => ⟨q, PySem.W.cellsFrom_some _ _ _ (.inl q)⟩
    · subst henv
      have J : Inv (bodyX c N qual (defScope st) f cd A outer s H E) [] (start N vs) H s1 := inv_start S hr.hd e0 (len _ _ _ _ hsp) rv x
      obtain ⟨t, ht, hq⟩ := hb cd A outer s H vs Q E rfl hg (hr.deeper _) hsp
      have run := ht.run [] s1 (start N vs) H _ J hq
      refine ⟨(e0.mod.nolimit.keeps keep).keeps x.toInCall.keep, codeAny_func (wpAny_mono run (fun fl s' h => ?_) fun _ _ h => h)⟩
      have done : ∀ {σ' : L2.St} {H' : Hp} {v : V} {u : Value}, Inv (bodyX c N qual (defScope st) f cd A outer s H E) [] σ' H' s' → RelV v u → Q v H' → CE outer c.P c.w H s Q u s' :=
        fun {_ H' v _} J' r q => ⟨v, H', J'.os, J'.bare, J'.base, J'.hok, r, q⟩
      match fl, h with
      | .ret u, ⟨v, σ', H', J', r, q⟩ => exact done J' r q
      | .next, ⟨σ', H', J', q⟩ => exact done (v := .non) (u := .none) J' rfl q
      | .brk, ⟨_, _, _, q⟩ => exact q.elim
      | .cont, ⟨_, _, _, q⟩ => exact q.elim

section
variable {X : L2.Cx} {c : Cfg} {k : Nat} {f : Addr} {fd : FuncData} {ps : List Str} {sp : Sp}
/-- the callee runs -/
theorem run_G (O : OverC c X) (F : FnG c k f fd ps sp) (hg : X.A.guards = some []) (hr : Room k X.A) (hb : Binds c.K fd ps []) {W : WX} (tk : Takes X W) {pins : List (Addr × Obj)} {σ : L2.St} {H : Hp} {s : Shared} {Q : VK} {us : List Value} {vs : List V}
    (I : Inv X pins σ H s) (r : Vals vs us) (h : sp vs H Q (WE W σ)) : wpAny (model X.prog X.w) X.A (call (.ref f) us) (EP X pins σ Q) X.xe s := by
  have hx := passAt tk σ
  have e0 := I.env0
  have hb' := hb s us (O.K ▸ I.kIn) (by rw [List.append_nil, ← r.length]; exact F.len _ _ _ _ h)
  rw [List.append_nil] at hb'
  have e0' : Env0 c.P c.w c.K c.mg c.base X.A X.stack s H := by rw [← O.P, ← O.w, ← O.K, ← O.mg, ← O.base]; exact e0
  have run := F.run X.A X.stack s H ⟨us, []⟩ us vs Q (WE W σ) hg hr e0' hb' r h
  rw [← O.P, ← O.w] at run
  refine wpAny_call (codeAny_mono run fun r s' hq => ?_)
  match r, hq with
  | .error e, hq => exact hx pins H s e s' I hq
  | .ok (.ret u), hq => exact I.after hq
  | .ok .next, hq => exact hq.elim
  | .ok .brk, hq => exact hq.elim
  | .ok .cont, hq => exact hq.elim
end
end FT
end

section
set_option Elab.async false
set_option linter.all false
set_option maxRecDepth 100000
set_option autoImplicit false
/-! FT.DctE: displays of dicts, walks over keys. -/
namespace FT
open PySem L2 LamX PyProof.Rows

section
variable {X : L2.Cx} {pins : List (Addr × Obj)} {σ : L2.St} {H : Hp} {s : Shared} {c : Cfg} {g : G} {S : Store}
theorem upd_same2 {H : Hp} {p : Addr} {o o' : HO} : upd (upd H p o) p o' = upd H p o' := by
  funext b
  by_cases hb : b = p
  · rw [hb, upd_same, upd_same]
  · rw [upd_ne hb, upd_ne hb, upd_ne hb]
/-- a dict with texts as keys, told exactly -/
theorem dk_expose {p : Addr} {kvs : List (Key × V)} (I : Inv X pins σ (upd H p (.dK kvs)) s) (O : OverC c X) {dkv : List (D × D)} (hk : kvs.map (·.1) = (dkv.map (·.1)).map fS) (hb : ∀ d ∈ dkv.map (·.1), isStrD d = true) (q : RepAll c g (dkv.map (·.2)) (kvs.map (·.2))) (hl : dkv.length ≤ 1000000) :
    ∃ o ks vs, Inv X pins σ (upd H p (DX p o)) s ∧ DctP c p o (dkv.map (·.1)) ks vs ∧ RepAll c g (dkv.map (·.1)) ks ∧ RepAll c g (dkv.map (·.2)) vs := by
  obtain ⟨z, hd, vs, rel, dd⟩ := dk_of I.hok (upd_same)
  have e1 : vs.map (·.1) = kvs.map (·.1) := by
    clear z dd hk q I
    unfold KV at rel
    induction rel with
    | nil => rfl
    | cons h t ih => simp [h.1, ih]
  have e2 : Vals (kvs.map (·.2)) (vs.map (·.2)) := by
    clear z dd hk q I e1
    unfold KV at rel
    induction rel with
    | nil => exact .nil
    | cons h t ih => exact .cons h.2 ih
  have al : Al c g fS isStrD dkv vs := Al.of (by rw [e1, hk]) hb q e2
  rw [O.P, O.w] at dd
  obtain ⟨o, ks, ws, k1, k2, k3, k4⟩ := txtD_back dd al hd hl
  refine ⟨o, ks, ws, ?_, k2, k3, k4⟩
  have J := d_write I (h' := s.heap) (t' := s.toks) (ob := DX p o) (by rw [upd_same]; exact True.intro) (Heap.SameBut.refl _ _) ⟨_, k1⟩ (dx_ok k1)
  rw [upd_same2] at J
  exact J
end

/-! ### the keys of a dict, one by one -/
theorem pairs_at {P : Program} {w : World} : ∀ {es : List DictEntry} {kv : List (Key × Value)} {ss : List Str} {i : Nat} {e : DictEntry}, Pairs (mixKind P w) es kv → kv.map (·.1) = ss.map .inr → es[i]? = some e → ∃ z, ss[i]? = some z ∧ RelV (.str z) e.key
  | _, _, _, _, _, .nil, _, h => by simp at h
  | _, _, [], _, _, .cons _ _ _, h, _ => by simp at h
  | _, _, z :: zs, 0, e, .cons (e := e') (kv := p) h1 _ _, h, he => by
    simp only [List.map_cons, List.cons.injEq] at h
    simp only [List.getElem?_cons_zero, Option.some.injEq] at he
    subst he
    rw [h.1] at h1
    refine ⟨z, by simp, ?_⟩
    rcases keyIs_shape (k := .inr z) h1 with ⟨i, t, e1, e2⟩ | ⟨x, t, e1, e2⟩
    · cases e1
    · cases e1
      exact ⟨t, e2⟩
  | _, _, z :: zs, i + 1, e, .cons _ _ hp, h, he => by
    simp only [List.map_cons, List.cons.injEq] at h
    simp only [List.getElem?_cons_succ] at he ⊢
    exact pairs_at hp h.2 he
theorem DctP.keys {c : Cfg} {a : Addr} {o : Obj} {dks : List D} {ks vs : List V} (p : DctP c a o dks ks vs) : ∃ es ep, o.data = .dict es ep ∧ es.size = ks.length ∧ ∀ (i : Nat) (e : DictEntry), es[i]? = some e → ∃ v, ks[i]? = some v ∧ RelV v e.key := by
  obtain ⟨es, ep, e, ⟨kv, ss, h1, h2, h3, h4, h5, h6, h7⟩ | ⟨xs, h1, h2, h3, h4, h5, h6⟩⟩ := p.ds
  · refine ⟨es, ep, e, ?_, fun i en he => ?_⟩
    · have l1 := h2.length
      have l2 := congrArg List.length h5
      rw [List.length_map, List.length_map] at l2
      rw [Array.length_toList] at l1
      rw [h6, List.length_map]
      omega
    · rw [← Array.getElem?_toList] at he
      obtain ⟨z, hz, rz⟩ := pairs_at h2 h5 he
      exact ⟨.str z, by rw [h6, List.getElem?_map, hz]; rfl, rz⟩
  · refine ⟨es, ep, e, ?_, fun i en he => ?_⟩
    · rw [← Array.length_toList, h1, h4, List.length_map, List.length_map]
    · rw [← Array.getElem?_toList, h1, List.getElem?_map] at he
      obtain ⟨x, hx, e2⟩ := Option.map_eq_some_iff.mp he
      subst e2
      exact ⟨.ref x.2.1, by rw [h4, List.getElem?_map, hx]; rfl, rfl⟩
/-- where the dict stands -/
def DSt (K : PySem.W.Frag) (H : Hp) (a : Addr) (o : Obj) : Prop := H a = some (DX a o) ∨ K.lookup a = some o
def Itd (K : PySem.W.Frag) (a : Addr) (o : Obj) (ks : List V) : It :=
  ⟨fun i H => DSt K H a o ∧ i < ks.length, fun i H x H' => H' = H ∧ ks[i]? = some x, fun i H => DSt K H a o ∧ ks.length ≤ i⟩
theorem dst_at {X : L2.Cx} {pins : List (Addr × Obj)} {σ : L2.St} {H : Hp} {s : Shared} {a : Addr} {o : Obj} (I : Inv X pins σ H s) (d : DSt X.K H a o) : s.heap.get? a = some o := by
  rcases d with d | d
  · exact (show ObjOk X.prog X.w H s.heap a (DX a o) from I.hok _ _ d).1
  · exact I.kIn a o d
theorem turn_dx {P : Program} {w : World} {K : PySem.W.Frag} {tg : Expr} {a : Addr} {o : Obj} {ks : List V} {es : Array DictEntry} {ep : Nat} (it : Addr) (hx : o.ExactDict) (hd : o.data = .dict es ep) (hs : es.size = ks.length) (hk : ∀ (i : Nat) (e : DictEntry), es[i]? = some e → ∃ v, ks[i]? = some v ∧ RelV v e.key) :
    Turn P w K tg (Itd K a o ks) [it] it (fun i h => h.IsKeyIter it a i es.size ep) where
  mem := by simp
  obj := fun i h st b hb => by
    have e : b = it := by simpa using hb
    subst e
    obtain ⟨o, e, c, d⟩ := st
    exact ⟨o, e, fun v z => by rw [d] at z; cases z⟩
  keep := fun i h h' st k => by
    obtain ⟨o, e, r⟩ := st
    exact ⟨o, k it (by simp) o e, r⟩
  item := by
    intro X hP hw hK hc i pins s σ H E I hf st hg
    subst hP hw hK
    obtain ⟨dst, hlt⟩ := hg
    have hm : s.heap.DictRaw a es ep := ⟨o, dst_at I dst, hx, hd⟩
    have hlt' : i < es.size := by rw [hs]; exact hlt
    obtain ⟨v, hv, rv⟩ := hk i es[i] (Array.getElem?_eq_getElem hlt')
    obtain ⟨f0, f1, f2, f3, f4, f5⟩ := hf it (by simp)
    refine wpAny_pyNext_keys_item_raw st hm hlt' fun h' st' sb => ?_
    have I1 : Inv X pins σ H { s with heap := h' } := I.turned (t' := s.toks) (fun b o hb e => (sb.2 b hb).trans e) f0 f1 f3 f4 f5
    obtain ⟨o', e, c, d⟩ := id st'
    exact ⟨_, rfl, go_of (s := { s with heap := h' }) e c d (by decide) ⟨v, H, I1, rv, ⟨rfl, hv⟩, st', fun b hb => (hf b hb).1⟩⟩
  done := by
    intro X hP hw hK hc i pins s σ H E I hf st hg
    subst hP hw hK
    obtain ⟨dst, hge⟩ := hg
    have hm : s.heap.DictRaw a es ep := ⟨o, dst_at I dst, hx, hd⟩
    obtain ⟨f0, f1, f2, f3, f4, f5⟩ := hf it (by simp)
    exact wpAny_pyNext_keys_end_raw (I.ok.hd hc) st hm (by rw [hs]; exact hge) fun h' eb => ⟨rfl, I.turned (t' := s.toks) (fun b o hb e => eb b o hb e) f0 f1 f3 f4 f5⟩
  self := fun _ _ _ _ _ st h => wpAny_pyIter_keyiter st h
/-- for k in d -/
def iDx (c : Cfg) (K : PySem.W.Frag) (tl : TE) : TI := fun σ H R => tl σ H fun x H1 => ∃ a o dks ks vs, x = .ref a ∧ DSt K H1 a o ∧ DctP c a o dks ks vs ∧ R (Itd K a o ks) H1
theorem pi_dx {X : L2.Cx} {c : Cfg} {tg l : Expr} {tl : TE} (hl : PE X l tl) : PI X tg l (iDx c X.K tl) := by
  refine ⟨fun pins s σ H R I h => ?_⟩
  refine thn (hl.run pins s σ H _ I h) fun v s1 ⟨x, H1, I1, r1, q1⟩ => ?_
  obtain ⟨a, o, dks, ks, vs, e, dst, p, q⟩ := q1
  subst e
  cases r1
  obtain ⟨es, ep, hd, hs, hk⟩ := p.keys
  have hm : s1.heap.DictRaw a es ep := ⟨o, dst_at I1 dst, p.ex, hd⟩
  refine wpAny_pyIter_dict_raw p.sys hm ?_
  refine ⟨s1.heap.objs.size, [s1.heap.objs.size], _, _, H1, rfl, I1.kept (t' := s1.toks) fun b o e => Heap.get?_push_of_some _ e, turn_dx _ p.ex hd hs hk, ⟨_, Heap.get?_push_size _ rfl, rfl, rfl⟩, fun b hb => ?_, q⟩
  have e : b = s1.heap.objs.size := by simpa using hb
  subst e
  exact I1.fpOk (Nat.le_refl _) (I1.hok.fresh (Nat.le_refl _))
/-! ### methods of dicts -/
def tDM (K : PySem.W.Frag) (r : V → List V → Hp → VK → Prop) (to : TE) (t : TA) : TE := fun σ H Q => to σ H fun x H1 => (∃ a o, x = .ref a ∧ DSt K H1 a o ∧ o.ExactDict) ∧ t σ H1 fun vs H2 => r x vs H2 Q
theorem pe_dm {X : L2.Cx} {o e : Expr} {es : List Expr} {to : TE} {t : TA} {name : Str} {id : String} {r : V → List V → Hp → VK → Prop} {apos cpos : Pos} (slot : Slot "dict" name id) (hty : typeOf (.builtin id) = pure (.type "method_descriptor")) (hm : MtR X id r) (ho : PE X o to) (ha : PA X (e :: es) t)
    (hbase : attributeBase o name X.env (eval o X.env) = eval o X.env)
    (hfew : ((backTo cpos (starEach (e :: es) X.env)).all (fun x => !x.1) && (backToKw cpos (keywordEach [] X.env)).all (fun x => x.1.isSome)
      && decide ((e :: es).length + ([] : List Keyword).length + (if ([] : List Keyword).isEmpty then 0 else 1) < 30)) = true)
    (hline : (apos.endLine == cpos.line) = true) (hs : starEach (e :: es) X.env = (false, eval e X.env) :: starEach es X.env) (hplain : (backTo cpos (starEach es X.env)).any (·.1) = false) :
    PE X (.Call (.Attribute o name apos) (e :: es) [] cpos) (tDM X.K r to t) := by
  refine ⟨fun pins s σ H Q I h => ?_⟩
  refine wpAny_Call_method_late hbase hfew hline rfl (thn (ho.run pins s σ H _ I h) fun v s1 ⟨x, H1, I1, r1, ⟨a, ob, ex, dst, xd⟩, q1⟩ => ?_)
  subst ex
  obtain rfl : v = Value.ref a := r1
  have hget := dst_at I1 dst
  refine ⟨"dict", id, PySem.F.plainAttrs_dict, slot, hty, ⟨ob, hget, xd.1⟩, fun b q => ?_, ?_⟩
  · cases q
    exact ⟨ob, hget, xd.2.1⟩
  have hA := ha.run cpos pins s1 σ H1 _ I1 q1
  rw [hs] at hA ⊢
  refine Calls.callWith_builtin (by show (false || (backTo cpos (starEach es X.env)).any (·.1)) = false; rw [hplain] <;> rfl) (Calls.evalArgs_plain ?_)
  exact thn hA fun us s2 ⟨vs, H2, I2, r2, q2⟩ => hm pins s2 σ H2 (.ref a) vs (.ref a) us Q I2 (show RelV (.ref a) (.ref a) from rfl) r2 q2
theorem dst_of {c : Cfg} {g : G} {S : Store} {H : Hp} {K : PySem.W.Frag} (hK : K = c.K) (r : RelS c g S H) {d : D} {x : V} {kvs : List (D × D)} (q : Rep c g d x) (h : dctD S d = some kvs) : ∃ a o ks vs, x = .ref a ∧ DSt K H a o ∧ DctP c a o (kvs.map (·.1)) ks vs ∧ RepAll c g (kvs.map (·.1)) ks := by
  cases q with
  | dct e p k v =>
    cases h
    exact ⟨_, _, _, _, rfl, by rw [hK]; exact e.imp (r.sub _ _) id, p, k⟩
  | @obj i a e =>
    simp only [dctD] at h
    split at h
    · rename_i kk hs
      cases h
      obtain ⟨_, o, ks, vs, h1, h2, h3, h4⟩ := r.live i a _ e hs
      exact ⟨a, o, ks, vs, rfl, .inl h1, h2, h3⟩
    · cases h
  | _ => cases h
end FT
end

section
set_option Elab.async false
set_option linter.all false
set_option maxRecDepth 100000
set_option autoImplicit false
/-! FT.Exx: a caught exception is kept as a value. -/
namespace FT
open PySem L2 LamX PySem.Spec PyProof.Rows

section
variable {X : L2.Cx} {pins : List (Addr × Obj)} {σ : L2.St} {H : Hp} {s : Shared}
/-- an object that is new since the entry becomes tracked -/
theorem inv_track {a : Addr} {o : HO} (I : Inv X pins σ H s) (hn : H a = none) (h0 : X.s_0.heap.get? a = none) (nL : a ≠ X.env.locals) (nC : ∀ x b, X.env.cells.lookup x = some b → b ≠ a) (np : ∀ p ∈ X.pn ++ pins, p.1 ≠ a) (new : ObjOk X.prog X.w (upd H a o) s.heap a o) : Inv X pins σ (upd H a o) s := by
  have U := I.base
  have n0 : ∀ b u, X.s_0.heap.get? b = some u → b ≠ a := fun b u e z => by
    rw [z, h0] at e
    cases e
  refine ⟨I.ok, I.os, I.bare, ⟨U.keep, U.slot, fun b u q n x => ?_, U.there, fun b xs q => ?_, fun b u xs q => ?_, fun b ps q => ?_⟩, I.loc, I.cell, ?_, fun x b e => ?_, fun p hp => ?_, I.hok.laidN (fun _ _ q => q) hn new, I.len⟩
  · rw [upd_ne (n0 b u q)]
    exact U.free b u q n x
  · have q2 := U.tups b xs q
    rw [upd_ne (ne_of_none q2 hn)]
    exact q2
  · have q2 := U.frzs b u xs q
    rw [upd_ne (ne_of_none q2 hn)]
    exact q2
  · obtain ⟨more, q2⟩ := U.tbls b ps q
    exact ⟨more, by rw [upd_ne (ne_of_none q2 hn)]; exact q2⟩
  · rw [upd_ne (Ne.symm nL)]
    exact I.free
  · rw [upd_ne (nC x b e)]
    exact I.freeC x b e
  · obtain ⟨e, n, ne, nf, d⟩ := I.pin p hp
    exact ⟨e, by rw [upd_ne (np p hp)]; exact n, ne, nf, d⟩
theorem excA_ok {a C : Addr} {oe : Obj} {vs : Array Value} {P : Program} {w : World} {h : Heap} {H' : Hp} (e : h.get? a = some oe) (z : Zc (.ref C) none oe) (d : oe.data = .fields vs) : ObjOk P w H' h a (ExcA C a) :=
  ⟨⟨oe, vs, e, z, d⟩, ⟨oe, e⟩, fun _ _ ⟨o, v, q, r⟩ k => ⟨o, v, k o q, r⟩⟩
/-- behind the suite the exception stays pinned -/
theorem inv_unsuite {a : Addr} {q : Addr × Obj} {pn' : List (Addr × Obj)} (I : Inv (X.suite a (q :: (X.pn ++ pins))) pn' σ H s) (ok : X.Ok) : Inv X (pins ++ [q]) σ H s :=
  ⟨ok, I.os, I.bare, I.base, I.loc, I.cell, I.free, I.freeC, fun p hp => I.pin p (List.mem_append_left _ (by
    rw [← List.append_assoc] at hp
    rcases List.mem_append.mp hp with m | m
    · exact .tail _ m
    · rw [List.mem_singleton.mp m]; exact .head _)), I.hok, I.len⟩
theorem inv_less {q : List (Addr × Obj)} (I : Inv X (pins ++ q) σ H s) : Inv X pins σ H s :=
  ⟨I.ok, I.os, I.bare, I.base, I.loc, I.cell, I.free, I.freeC, fun p hp => I.pin p (by
    rw [← List.append_assoc]
    exact List.mem_append_left _ hp), I.hok, I.len⟩
end

/-- isinstance(e, C) of a tracked exception -/
theorem call_isX {X : L2.Cx} : CallR X (.builtin "isinstance") (fun xs H Q => ∃ (a D : Addr) (t : V) (tv : Value) (b : Bool), xs = [.ref a, t] ∧ (∀ u, RelV t u → u = tv) ∧ H a = some (ExcA D a) ∧ ExcC X.K D ∧ PySem.W.kitOne X.K (.ref D) tv = some b ∧ Q (.bl b) H) := by
  intro pins s σ H xs us Q I rv h
  obtain ⟨a, D, t, tv, b, rfl, ht, ha, hC, hk, q⟩ := h
  match us, rv with
  | [_, u], .cons rx (.cons rt .nil) =>
    cases rx
    cases ht _ rt
    obtain ⟨⟨oe, vs, h1, h2, h3⟩, _, _⟩ := I.hok a _ ha
    have J : PySem.W.InstAt s.heap a oe D none := by
      obtain ⟨oc, od, oda, osl⟩ := oe
      obtain ⟨e1, e2⟩ := h2
      simp only at e1 e2 h3
      subst e1 e2 h3
      exact ⟨h1, rfl, rfl, trivial⟩
    exact PySem.W.kia_one (PySem.W.handS_kitx_exc hC.hg hC.hk hC.hs hC.hd hC.ha hC.hn hC.ht hC.hm) I.kIn J hk (fun z => nomatch z) fun tk => ⟨.bl b, H, I.kept (t' := tk) fun _ _ z => z, rfl, q⟩
/-- what the clause wishes: behind its suite the exception is tracked -/
def wTr (K : PySem.W.Frag) (c : Value) (i : Nat) (ts : Addr → Value → Option Addr → TS) (Wout : WX) (D : Ends) : WX := fun cls d σ H =>
  ∃ b, PySem.W.exmOne K cls c = some b ∧ (b = false → Wout cls d σ H) ∧
    (b = true → d = none ∧ ∃ C, cls = .ref C ∧ ∀ a, H a = none → ts a cls d { nx := fun σ' H' => H' a = none → D.nx (σ'.set i none) (upd H' a (ExcA C a)), rt := fun _ _ => False, bk := fun _ _ => False, ct := fun _ _ => False } (σ.set i (some (.ref a))) H)
section
variable {X : L2.Cx} {x n : Str} {c : Value} {i : Nat} {body suite : List Stmt} {b₀ : Stmt} {np pos pos' : Pos} {tb : WX → TS} {ts : Addr → Value → Option Addr → TS} {Wout : WX}
/-- try: .. / except x as n: .., the exception kept -/
theorem ps_try_keep (hx : X.ex = []) (hs : X.stack = X.env :: X.outer) (hf : X.env.frame = some X.env.locals) (hN : X.N.Nodup) (hi : X.N[i]? = some n) (hln : X.env.kindOf n = some .local) (hc : Names X x c) (tk : Takes X Wout)
    (hb : ∀ (W : WX) (pn : List (Addr × Obj)) (xe : Value → Shared → Prop), Takes (X.tr pn xe) W → PassesOwn (model X.prog X.w) X.A X.env xe → PSs (X.tr pn xe) body (tb W))
    (hsu : ∀ (a : Addr) (oe : Obj) (cls : Value) (d : Option Addr) (pn : List (Addr × Obj)), Zc cls d oe → (∃ vs, oe.data = .fields vs) → PSs (X.suite a ((a, oe) :: pn)) (b₀ :: suite) (ts a cls d)) :
    PS X (.Try body [.ExceptHandler (some (.Name x np)) (some n) (b₀ :: suite) pos'] [] [] pos) (fun D σ H => tb (wTr X.K c i ts Wout D) D σ H) := by
  refine ⟨fun pins s σ H D I h => ?_⟩
  have ok := I.ok
  have frm : X.A.frames = some (X.env :: X.outer) := by rw [ok.frames, hs]
  have lcl : Loc X.env.scope n := .inl hln
  refine wpAny_Try_except ?_
  refine wpAny_mono ((hb (wTr X.K c i ts Wout D) (X.pn ++ pins) (fun e s₁ => wpAny (model X.prog X.w) X.A (noteFrame e X.env) (fun _ s₂ => wpAny (model X.prog X.w) X.A (setFlight e none) (fun _ s₃ =>
    wpAny (model X.prog X.w) X.A (handleBy e X.env [.ExceptHandler (some (.Name x np)) (some n) (b₀ :: suite) pos']) (SP X pins D) X.xe s₃) X.xe s₂) X.xe s₁) (fun u s' xx => ?_) PassesOwn.looking).run [] s σ H D (I.toTry _) h) (fun f s1 hsp => ?_) (fun e s1 he => he)
  · obtain ⟨a, B, sI, pins', σ', H', cls, d, rfl, J', nb, up, sky, na, os, ag, b, hb1, hno, hyes⟩ := xx
    have J : Inv X pins σ' H' sI := J'.ofTry ok
    have air : Sky B (X.env :: X.outer) a (Zc cls d) X.env.locals s'.heap := by
      rw [← hs]
      exact sky
    show wpAny (model X.prog X.w) X.A (noteFrame (.ref a) X.env) _ _ s'
    refine Sky.land Zc.steady frm hf air fun h3 fl3 up3 => ?_
    have J3 : Inv X pins σ' H' { s' with heap := h3 } := J.landed nb fl3.1 (up.trans up3) os ag
    obtain ⟨oe3, vs3, he3, hz3, hd3⟩ := fl3.there
    have nfr : a ∉ frs (X.env :: X.outer) := fun hm => by
      obtain ⟨_, o', e', hnf⟩ := fl3.2.2.1.mem hm
      rw [he3] at e'
      cases e'
      exact hnf _ hd3
    have nL : a ≠ X.env.locals := fun z => nfr (List.mem_filterMap.mpr ⟨X.env, .head _, by rw [hf, z]⟩)
    have nF : a ∉ X.fs := fun hm => by
      obtain ⟨e, he, q⟩ := List.mem_filterMap.mp hm
      exact nfr (List.mem_filterMap.mpr ⟨e, .tail _ he, q⟩)
    have gone : sI.heap.get? a = none := by
      cases e : sI.heap.get? a with
      | none => rfl
      | some u =>
        have z := nb a u e (by rw [hs]; exact nfr)
        rw [fl3.2.1] at z
        cases z
    have g0 : X.s_0.heap.get? a = none := by
      cases e : X.s_0.heap.get? a with
      | none => rfl
      | some u =>
        obtain ⟨u', z⟩ := J.base.there a u e (by rw [hx]; exact fun z => nomatch z)
        rw [gone] at z
        cases z
    have S3 := J3.suite he3 hd3 na nL nF
    refine wpAny_handleBy_cons (codeAny_handlers_test ?_) (by intro q; cases q)
    have LT : PySem.W.Looks (model X.prog X.w) h3 (typeOf (.ref a)) cls := fun A Q E s k q => wpAny_typeOf_ref (k _ _ he3) (by rw [hz3.1]; exact q)
    have LM := PySem.W.exm_one (M := model X.prog X.w) J3.kIn LT hb1
    have test : ∀ {Q : Value → Shared → Prop} {E : Value → Shared → Prop}, Q c { s' with heap := h3 } → wpAny (model X.prog X.w) (X.A.mark (some (.ref a))) (eval (.Name x np) X.env) Q E { s' with heap := h3 } := fun {Q E} q => by
      obtain ⟨k1, k2, k3 | ⟨k3, k4, k5⟩⟩ := hc
      · exact ld_glob (X := X.suite a ((a, oe3) :: (X.pn ++ pins))) S3 k1 k3 q k2
      · exact ld_blt (X := X.suite a ((a, oe3) :: (X.pn ++ pins))) S3 k1 k3 k4 q k5 k2
    refine test (LM.here ?_)
    cases b with
    | true =>
      obtain ⟨ed, C, ec, hyes⟩ := hyes rfl
      subst ed ec
      refine codeAny_handlers_suite_as ?_
      refine HandSPX.lands_againZ fl3 fun h4 fl4 up4 => ?_
      have J4 : Inv X pins σ' H' { s' with heap := h4 } := J.landed nb fl4.1 ((up.trans up3).trans up4) os ag
      obtain ⟨oe4, vs4, he4, hz4, hd4⟩ := fl4.there
      have S4 := J4.suite he4 hd4 na nL nF
      refine store_ok (X := X.suite a ((a, oe4) :: (X.pn ++ pins))) (v := .ref a) S4 hN hi lcl rfl (fun s5 S5 => ?_) (.inr hln)
      refine wpAny_mono ((hsu a oe4 (.ref C) none (X.pn ++ pins) hz4 ⟨_, hd4⟩).run [] s5 _ H' _ S5 (hyes a na)) (fun f s6 hsp => ?_) (fun _ _ z => z.elim)
      cases f with
      | next =>
        obtain ⟨σ6, H6, S6, q6⟩ := hsp
        refine gone_ok (pins := pins ++ [(a, oe4)]) (inv_unsuite S6 ok) hN hi hln fun s7 J7 => ?_
        obtain ⟨p1, p2, _, _, p5⟩ := J7.pin (a, oe4) (by simp)
        refine ⟨_, _, inv_track (inv_less J7) p2 g0 nL (fun y b' e z => ?_) (fun p hp z => ?_) (excA_ok p1 hz4 hd4), q6 p2⟩
        · obtain ⟨v', o', ho', hd'⟩ := J7.cell y b' e
          rw [z] at ho'
          have p1' : s7.heap.get? a = some oe4 := p1
          rw [p1'] at ho'
          cases ho'
          exact p5 _ hd'
        · have k := (J.pin p hp).1
          rw [z, gone] at k
          cases k
      | brk =>
        obtain ⟨_, _, _, q6⟩ := hsp
        exact q6.elim
      | cont =>
        obtain ⟨_, _, _, q6⟩ := hsp
        exact q6.elim
      | ret u =>
        obtain ⟨_, _, _, _, _, q6⟩ := hsp
        exact q6.elim
    | false =>
      show wpAny _ X.A (handleBy (.ref a) X.env []) _ _ _
      refine wpAny_handleBy_nil ?_
      obtain ⟨k1, k2, k3, oe, vs, T, oT, tt, he, hz, hd, h1, hr⟩ := id fl3
      unfold PySem.passOn
      refine wpAny_bind (wpAny_field he hd h1 ?_)
      rw [if_neg (show ¬ ((Value.ref T == Value.none) = true) by simp)]
      have fin : wpAny (model X.prog X.w) X.A (setFlight (.ref a) X.env.frame) (fun _ s4 => wpAny (model X.prog X.w) X.A (throw (.ref a) : Sem Flow) (SP X pins D) X.xe s4) X.xe { s' with heap := h3 } := by
        rw [hf]
        exact HandSPX.setFlight_upZ fl3 fun h4 hh4 up4 => wpAny_throw (tk _ _ ⟨a, B, sI, pins, σ', H', cls, d, rfl, J, nb, (up.trans up3).trans up4, .inr (.inr (by rw [hs]; exact hh4)), na, os, ag, hno rfl⟩)
      first
        | exact wpAny_bind (wpAny_pure (wpAny_bind fin))
        | exact wpAny_bind fin
  · cases f with
    | next =>
      obtain ⟨σ', H', J', q⟩ := hsp
      exact wpAny_execs_nil ⟨σ', H', J'.ofTry ok, q⟩
    | brk =>
      obtain ⟨σ', H', J', q⟩ := hsp
      exact ⟨σ', H', J'.ofTry ok, q⟩
    | cont =>
      obtain ⟨σ', H', J', q⟩ := hsp
      exact ⟨σ', H', J'.ofTry ok, q⟩
    | ret u =>
      obtain ⟨v, σ', H', J', r, q⟩ := hsp
      exact ⟨v, σ', H', J'.ofTry ok, r, q⟩
end
end FT
end

section
set_option Elab.async false
set_option linter.all false
set_option maxRecDepth 100000
set_option autoImplicit false
/-! FT.Lam: a lambda handed to a def; its body runs in the surroundings of the call. -/
namespace FT
open PySem L2 LamX PySem.Spec PyProof.Rows

/-- the callee's context -/
abbrev calX (X : L2.Cx) (CXg : CXT) (Ng : List Str) (x : Str) (sg : Scope) (g : Addr) (cdg : Value) (s : Shared) (H : Hp) (Eg : XK) : L2.Cx := cxOf CXg X.prog X.w X.K X.mg X.base Ng x sg g cdg X.A X.stack s H Eg
/-- where the callee stands -/
abbrev calA (X : L2.Cx) (x : Str) (sg : Scope) (g : Addr) (cdg : Value) (s : Shared) : Around := X.A.deeper (envOfC x sg s.heap.objs.size g cdg)
abbrev calO (X : L2.Cx) (x : Str) (sg : Scope) (g : Addr) (cdg : Value) (s : Shared) : List PySem.Env := envOfC x sg s.heap.objs.size g cdg :: X.stack
/-- the lambda as a function's data -/
abbrev lamD (X : L2.Cx) (params : Arguments) (body : Expr) (scope : Scope) (pm cv ctv : Value) : FuncData := PySem.W.kla_fn "<lambda>" (X.env.qual ++ "<lambda>") params body scope (cloFrom X.env.cells scope.names []) pm cv ctv
section
variable {X : L2.Cx} {pins : List (Addr × Obj)} {σ : L2.St} {H : Hp} {s : Shared}
/-- a() in the callee, a the lambda -/
theorem act_run {CXg : CXT} {Eg : XK} {Ng : List Str} {x a : Str} {sg scope : Scope} {g f c' : Addr} {cdg pm ctv : Value} {params : Arguments} {body : Expr} {k i : Nat} {pn : List (Addr × Obj)} {xe : Value → Shared → Prop} {W : WX} {tb : XK → TE} {p1 p2 : Pos}
    (I : Inv X pins σ H s) (L : LamS X.env.scope scope) (lies : s.heap.get? f = some (PySem.W.kla_obj "<lambda>" (X.env.qual ++ "<lambda>") params body scope (cloFrom X.env.cells scope.names []) pm c' ctv)) (fr : H f = none) (nfr : f ∉ frs X.stack)
    (bound : bindArgs (lamD X params body scope pm (.ref c') ctv) ⟨[], []⟩ = pure []) (tk : Takes ((calX X CXg Ng x sg g cdg s H Eg).tr pn xe) W) (room : Room (k + 1) (calA X x sg g cdg s))
    (run : ∀ (E : XK) (s2 : Shared) (H2 : Hp), Room k ((calA X x sg g cdg s).deeper (lamEnv X scope s2.heap.objs.size f c')) → PE (lamCx X (calA X x sg g cdg s) (calO X x sg g cdg s) s2 H2 E scope f c') body (tb E))
    (hN : Ng[i]? = some a) (hv : Vis sg a) (hd : (a == ("__debug__" : Str)) = false) (hcd : (a == ("__classdict__" : Str)) = false) :
    PE ((calX X CXg Ng x sg g cdg s H Eg).tr pn xe) (.Call (.Name a p1) [] [] p2) (fun σZ HZ Q => ∃ E : XK, (∀ cls d H', E cls d H' → W cls d σZ H') ∧ σZ[i]? = some (some (.ref f)) ∧ HZ c' = some (CodeO c' (X.env.qual ++ "<lambda>")) ∧ tb E σ HZ Q) := by
  refine ⟨fun pinsZ sZ σZ HZ Q IZ hh => ?_⟩
  obtain ⟨E, out, slot, code, wish⟩ := hh
  have ld := (pe_var (pos := p1) (i := i) hN hv hd hcd).run pinsZ sZ σZ HZ (fun v H1 => v = .ref f ∧ H1 = HZ) IZ ⟨.ref f, slot, rfl, rfl⟩
  refine wpAny_Call_Name_kw (thn ld fun u s1 ⟨v, H1, I1, r1, q1⟩ => ?_)
  obtain ⟨rfl, rfl⟩ := q1
  cases r1
  have lies1 := I1.base.keep f _ lies fr nfr (fun z => nomatch (show f ∈ ([] : List Addr) from z))
  refine PySem.W.callWith_F0 ⟨_, _, _, _, lies1⟩ ?_
  obtain ⟨⟨oc, vs, t, hoc, hdc, hvc⟩, _, _⟩ := I1.hok c' _ code
  have ran : codeAny (model X.prog X.w) (calA X x sg g cdg s) (.call (.ref f) ⟨[], []⟩) (CR (L2.CX X.prog X.w) (calO X x sg g cdg s) X.prog X.w H1 s1 Q E) s1 := by
    refine PySem.W.kla_callFunE room.depth lies1 rfl L.co L.gen rfl ⟨c', oc, vs, t, rfl, hoc, hdc, hvc⟩ ?_
    rw [bound]
    refine wpAny_pure (wpAny_newFunctionEnv (fun y hy => (L.own y hy).2) (fun y hy => absurd hy (by simp)) (fun h₁ ns sb => ⟨I1.nolimit.fresh _ sb, ?_⟩) L.kind)
    have kp : ∀ b o, s1.heap.get? b = some o → h₁.get? b = some o := fun b o e => sb.extBut b o (Nat.ne_of_lt (Heap.lt_size e)) (Heap.get?_push_of_some _ e)
    have J : Inv (lamCx X (calA X x sg g cdg s) (calO X x sg g cdg s) s1 H1 E scope f c') [] σ H1 { s1 with heap := h₁, toks := s1.toks + ([] : List (Str × Value)).length } := lam_start2 I L I1.env0 room.hd I1.base ns kp
    have go := (run E s1 H1 (room.deeper _)).run [] _ _ H1 Q J wish
    refine PySem.W.kla_codeExpr (wpAny_mono go (fun v s' hq => ?_) fun _ _ hq => hq)
    obtain ⟨w', H', J', rv, q⟩ := hq
    exact ⟨w', H', J'.os, J'.bare, J'.base, J'.hok, rv, q⟩
  refine wpAny_call (codeAny_mono ran fun r s' hq => ?_)
  match r, hq with
  | .error e, ⟨b, B, H', cls, d, q1, q2, q3, q4, q5, q6, q7, q8⟩ => exact passAt tk σZ pinsZ H1 s1 e s' I1 ⟨b, B, H', cls, d, q1, q2, q3, q4, q5, q6, q7, out _ _ _ q8⟩
  | .ok (.ret u), hq => exact I1.after hq
  | .ok .next, hq => exact hq.elim
  | .ok .brk, hq => exact hq.elim
  | .ok .cont, hq => exact hq.elim
/-- the def that calls what it is handed; TT: what it makes of the lambda's reading -/
def GivesL (X : L2.Cx) (Ng : List Str) (x : Str) (sg : Scope) (g : Addr) (cdg : Value) (bg : List Stmt) (a q : Str) (TT : (XK → Hp → VK → Prop) → Hp → VK → Prop) : Prop :=
  ∀ (f c' : Addr) (s : Shared) (H : Hp) (Q : VK) (tl : XK → Hp → VK → Prop),
    (∀ (W : WX) (pn : List (Addr × Obj)) (xe : Value → Shared → Prop) (p1 p2 : Pos), Takes ((calX X C8.CX0 Ng x sg g cdg s H C8.E0).tr pn xe) W →
      PE ((calX X C8.CX0 Ng x sg g cdg s H C8.E0).tr pn xe) (.Call (.Name a p1) [] [] p2) (fun σZ HZ Q => ∃ E : XK, (∀ cls d H', E cls d H' → W cls d σZ H') ∧ σZ[0]? = some (some (.ref f)) ∧ HZ c' = some (CodeO c' q) ∧ tl E HZ Q)) →
    H c' = some (CodeO c' q) → TT tl H Q → ∃ t, PSs (calX X C8.CX0 Ng x sg g cdg s H C8.E0).nox bg t ∧ t { nx := fun _ H' => Q .non H', rt := Q } (L2.start Ng [.ref f]) H
/-- x(lambda: body) -/
theorem lam_call {T : List (Addr × Str)} {TT : (XK → Hp → VK → Prop) → Hp → VK → Prop} {x a : Str} {g c P : Addr} {k : Nat} {pg params : Arguments} {bg : List Stmt} {sg scope : Scope} {dV kV doc pm cdv ct oc : Value} {an od : Option Addr} {osl : Array (Option Value)} {Ng : List Str} {body : Expr} {t : XK → TE} {p lpos pos : Pos}
    (hg : Gl X x) (hm : X.mg x = some (.ref g)) (hk : PySem.W.keepIn X.K (.ref g) = true) (lk : X.K.lookup g = some ⟨oc, od, .func (PySem.W.fnOf x x pg bg sg dV kV doc pm an cdv ct), osl⟩) (hcg : PySem.W.codeIn X.K cdv x = true)
    (hb : L2.Binds X.K (PySem.W.fnOf x x pg bg sg dV kV doc pm an cdv ct) [a] []) (Sg : FnScope Ng [a] sg) (hNg : Ng[0]? = some a) (hva : Vis sg a) (hG : GivesL X Ng x sg g cdv bg a (X.env.qual ++ "<lambda>") TT)
    (TB : TabB X.base X.mg c P) (hcode : X.env.code = .ref c) (hmT : (P, X.env.qual ++ "<lambda>") ∈ T) (hu : ∀ p ∈ T, p.1 = P → p.2 = X.env.qual ++ "<lambda>") (hr : Room (k + 2) X.A) (L : LamS X.env.scope scope) (hdef : defaultsOf params X.env = ([], []))
    (bound : ∀ (q : Str) (cl : List (Str × Addr)) (pm cv ctv : Value), bindArgs (PySem.W.kla_fn "<lambda>" q params body scope cl pm cv ctv) ⟨[], []⟩ = pure [])
    (run : ∀ (s0 s2 : Shared) (H2 : Hp) (E : XK) (f c' : Addr), Room k ((calA X x sg g cdv s0).deeper (lamEnv X scope s2.heap.objs.size f c')) → PE (lamCx X (calA X x sg g cdv s0) (calO X x sg g cdv s0) s2 H2 E scope f c') body (t E))
    (hdb : (x == ("__debug__" : Str)) = false) (hd : (a == ("__debug__" : Str)) = false) (hcd : (a == ("__classdict__" : Str)) = false) :
    PE X (.Call (.Name x p) [.Lambda params body scope lpos] [] pos) (tLam T TT t) := by
  refine ⟨fun pins s σ H Q I hh => ?_⟩
  obtain ⟨tabs, wish⟩ := hh
  refine wpAny_Call_Name_kw (ld_glob I hg hm ?_ hdb)
  refine PySem.W.callWith_K (h₀ := X.base) I.ok.mod.kin hk ?_ (by rfl) (by rfl)
  show wpAny _ _ (spliced ((false, eval (.Lambda params body scope lpos) X.env) :: backTo pos (starEach [] X.env))) _ _ s
  refine Calls.spliced_cons (lam_make2 I TB hcode hmT hu tabs hdef (L.has I.ok) fun f c' pm' ctv H1 s' I1 eN T1 lies fr nfr co => ?_)
  refine Calls.spliced_nil ⟨I1.kIn, ?_⟩
  have ran : codeAny (model X.prog X.w) X.A (.call (.ref g) ⟨[.ref f], []⟩) (CR C8.CX0 X.stack X.prog X.w H1 s' Q C8.E0) s' := by
    refine run_ofS (N := Ng) (ps := [a]) (us := [.ref f]) (vs := [.ref f]) lk hcg Sg hr I1.env0 (hb s' [.ref f] I1.kIn rfl) (.cons rfl .nil) rfl fun hr' => ?_
    obtain ⟨t', k1, k2⟩ := hG f c' s' H1 Q (fun E H' Q' => t E σ H' Q') (fun W pn xe p1 p2 tk => act_run (i := 0) I1 L lies fr nfr (bound _ _ _ _ _) tk hr' (fun E s2 H2 r2 => run s' s2 H2 E f c' r2) hNg hva hd hcd) co (wish H1 eN T1)
    exact ⟨t', k1.nox, k2⟩
  refine wpAny_call (codeAny_mono ran fun r s2 hq => ?_)
  match r, hq with
  | .error e, hq => exact (show False from hq).elim
  | .ok (.ret u), hq => exact I1.after hq
  | .ok .next, hq => exact hq.elim
  | .ok .brk, hq => exact hq.elim
  | .ok .cont, hq => exact hq.elim
end
end FT
end

section
set_option Elab.async false
set_option linter.all false
set_option maxRecDepth 100000
set_option autoImplicit false
/-! FT.Par: an own exception whose __init__ says super().__init__(f'..{line}') and self.line = line. -/
namespace FT
open PySem L2 LamX PyProof.Rows

/-- the body -/
def parBody (m : Str) (n : Nat) (p0 p1 p2 p3 p4 p5 p6 p7 p8 q1 q2 q3 q4 : Pos) : List Stmt :=
  [.Expr (.Call (.Attribute (.Call (.Name "super" p0) [] [] p1) "__init__" p2) [.JoinedStr [.Constant (.str m) n p3, .FormattedValue (.Name "line" p4) (-1) none p5] p6] [] p7) p8,
    .Assign [.Attribute (.Name "self" q1) "line" q2] (.Name "line" q3) q4]
def parNames : List (Str × NameKind) := [("self", .local), ("line", .local), ("__class__", .free), ("super", .globalImplicit)]
theorem mc_eq {o e : Expr} {name : Str} {apos pos : Pos} {env : PySem.Env} (hl : (apos.endLine == pos.line) = true) (hf : methodCallForm 1 (backTo pos (starEach [e] env)) [] = true) :
    eval (.Call (.Attribute o name apos) [e] [] pos) env = (do
      let ov ← attributeBase o name env (eval o env)
      standAt apos.atName
      let (f, first) ← holding [ov] (getMethod ov name (do return (← importBound o env).getD true))
      callWith pos f first (backTo pos (starEach [e] env)) []) := by
  have e1 : ∀ ov, methodCall o name apos pos env ov ([e].length + ([] : List Keyword).length) (backTo pos (starEach [e] env)) (backToKw pos (keywordEach [] env)) = (do
      let (f, first) ← holding [ov] (getMethod ov name (do return (← importBound o env).getD true))
      callWith pos f first (backTo pos (starEach [e] env)) []) := fun ov => by
    have e2 : methodCallForm ([e].length + ([] : List Keyword).length) (backTo pos (starEach [e] env)) (backToKw pos (keywordEach [] env)) = true := hf
    have e3 : methodCallPos true o env apos pos = pure pos := by
      unfold methodCallPos
      rw [hl]
      rfl
    unfold methodCall
    rw [e2, e3]
    rfl
  rw [arm_eval_Call]
  exact congrArg (fun t => attributeBase o name env (eval o env) >>= fun ov => standAt apos.atName >>= fun _ => t ov) (funext e1)
/-- what is written of it -/
structure ParK (P : Program) (K : PySem.W.Frag) (C f : Addr) : Prop where
  ex : ∃ (m : Str) (n : Nat) (p0 p1 p2 p3 p4 p5 p6 p7 p8 q1 q2 q3 q4 : Pos) (params : Arguments) (scope : Scope) (dV kV doc pm ct oc : Value) (an od : Option Addr) (osl : Array (Option Value)) (cc cda : Addr) (vs : Array Value) (file : Str) (tf : Tok) (ccl cl : Value) (cdd cld : Option Addr) (ccs csl : Array (Option Value)) (cdD : ClassData) (ar : Arg),
    K.lookup f = some ⟨oc, od, .func (PySem.W.ksFn "__init__" "ParseError.__init__" params (parBody m n p0 p1 p2 p3 p4 p5 p6 p7 p8 q1 q2 q3 q4) scope dV kV doc pm an (.ref cda) ct cc), osl⟩ ∧
    PySem.W.codeIn K (.ref cda) "ParseError.__init__" = true ∧ K.lookup cda = some ⟨ccl, cdd, .fields vs, ccs⟩ ∧ vs[2]? = some (.str file tf) ∧ ((P.main.file : Str) == file) = true ∧
    K.lookup cc = some ⟨cl, cld, .cell (some (.ref C)), csl⟩ ∧ PySem.W.clsIn K C = some cdD ∧ PySem.W.mroIn K C (.ref C) = some true ∧ PySem.W.nsIn K mainGlobals "super" = some none ∧
    (params.posonlyargs ++ params.args).head? = some ar ∧ ar.arg = "self" ∧ scope.names = parNames ∧ scope.kind = .function ∧ scope.isCoroutine = false ∧ scope.isGenerator = false ∧ m.length ≤ 1000 ∧
    (P.main.scope.names.lookup ("super" : Str)).isSome = false ∧ (p2.endLine == p7.line) = true ∧ PySem.W.nsIn K cStatics "thirdparty.any" = some none ∧ PySem.W.ks_superIn K C C "__init__" = some (some (.builtin "ValueError.__init__")) ∧
    PySem.W.subIn K (.ref C) (.type "ValueError") = some true ∧ PySem.W.excInitIn K C [.type "ValueError", .type "Exception", .type "BaseException", .type "object"] "ValueError.__new__" = true
section
open PySem.W
variable {P : Program} {w : World} {A : Around} {s : Shared} {K : Frag} {mg : Str → Option Value} {base : Heap} {C f e t0 : Addr} {R : Result → Shared → Prop}
theorem par_initA {args : Args} (X : ParK P K C f) (T : OexC K C) (hl : findIn K (.ref C) "line" = some none) (M : Mod K mg base) (hb : ∀ b o, base.get? b = some o → s.heap.get? b = some o) (he : s.heap.get? e = some (excObj C t0 none .none)) (hn : base.get? e = none) (hbz : base.objs.size ≤ s.heap.objs.size)
    (hroom : A.depth < recursionLimit) {i : Int} {tk : Tok} (hi : i.natAbs.log2 < 1920)
    (hbind : ∀ fd oc od osl, K.lookup f = some ⟨oc, od, .func fd, osl⟩ → BindsTo s fd args [("self", .ref e), ("line", .int i tk)])
    (h : ∀ h' tk' t1 dx, (∀ b o, b ≠ e → s.heap.get? b = some o → h'.get? b = some o) → s.heap.get? dx = none → dx ≠ e → h'.get? e = some { cls := .ref C, dict := some dx, data := .fields #[.ref t1, .none, .none, .none, .bool false, .none] } →
      h'.Ns1 dx (fun y => if y = "line" then some (.int i tk) else none) → R (.ok (.ret .none)) { s with heap := h', toks := tk' }) :
    codeAny (model P w) A (.call (.ref f) args) R s := by
  obtain ⟨m, n, p0, p1, p2, p3, p4, p5, p6, p7, p8, q1, q2, q3, q4, params, scope, dV, kV, doc, pm, ct, oc, an, od, osl, cc, cda, vs, file, tf, ccl, cl, cdd, cld, ccs, csl, cdD, ar, k1, k2, k3, k4, k5, k6, k7, k8, k9, k10, k11, k12, k13, k14, k15, k16, k17, k22, k18, k19, k20, k21⟩ := X.ex
  have KX : K.In s.heap := M.kin.keeps hb
  have hk : ∀ x k, parNames.lookup x = some k → scope.names.lookup x = some k := fun x k z => by rw [k12]; exact z
  refine ks_codeAny_call_defAt (fd := ksFn "__init__" "ParseError.__init__" params (parBody m n p0 p1 p2 p3 p4 p5 p6 p7 p8 q1 q2 q3 q4) scope dV kV doc pm an (.ref cda) ct cc) (body := parBody m n p0 p1 p2 p3 p4 p5 p6 p7 p8 q1 q2 q3 q4) (binds := [("self", .ref e), ("line", .int i tk)])
    hroom (KX _ _ k1) rfl (M.nolimit.keeps hb) (codeRec_of KX k2) rfl (hbind _ _ _ _ k1) ?_ ?_ (fun h₁ hns hk₁ => ?_) k14 k15 k13
  · show ∀ x ∈ scope.names, x.2 ≠ .cell
    rw [k12]; decide
  · show ∀ x ∈ [(("self" : Str), Value.ref e), ("line", .int i tk)], scope.names.lookup x.1 = some .local
    rw [k12]
    intro x hx
    simp only [List.mem_cons, List.not_mem_nil, or_false] at hx
    rcases hx with rfl | rfl
    · show parNames.lookup ("self" : Str) = some .local
      decide
    · show parNames.lookup ("line" : Str) = some .local
      decide
  generalize hL : s.heap.objs.size = L at hns ⊢
  show PySem.wpAt (model P w) (A.deeper (ksEnv "ParseError.__init__" scope L f (.ref cda) cc)) (.func (parBody m n p0 p1 p2 p3 p4 p5 p6 p7 p8 q1 q2 q3 q4) (ksEnv "ParseError.__init__" scope L f (.ref cda) cc)) (PySem.execs (parBody m n p0 p1 p2 p3 p4 p5 p6 p7 p8 q1 q2 q3 q4) (ksEnv "ParseError.__init__" scope L f (.ref cda) cc)) _ _ _
  have kn : ∀ x k, parNames.lookup x = some k → (ksEnv "ParseError.__init__" scope L f (.ref cda) cc).kindOf x = some k := fun x k z => hk x k z
  have ne : ∀ a o, K.lookup a = some o → a ≠ e := fun a o z q => by
    have := M.kin a o z
    rw [q, hn] at this
    cases this
  have KG : K.In (hideAll s.heap [e]) := fun a o z => hideAll_get _ (KX a o z) (by simpa using ne a o z)
  have F1 : Fr (hideAll s.heap [e]) L h₁ (fun x => [(("self" : Str), Value.ref e), ("line", .int i tk)].reverse.lookup x) := ⟨hns, fun b o z => hk₁ b o (of_hideAll _ z), by rw [hideAll_size]; exact Nat.le_of_eq hL⟩
  have N1 : News (hideAll s.heap [e]) L h₁ [(e, excObj C t0 none .none)] := fun p hp => by
    have : p = (e, excObj C t0 none .none) := by simpa using hp
    subst this
    exact ⟨hk₁ _ _ he, fun z => by have h2 := Heap.lt_size he; rw [hL] at h2; exact Nat.ne_of_lt h2 z, hideAll_none _ (by simp)⟩
  have K1 : K.In h₁ := KG.keeps F1.keep
  have st1 : base.StaysIn h₁ := fun b o z => hk₁ b o (hb b o z)
  obtain ⟨mb, hmb, hmb2⟩ := M.blt
  refine ks_wpAt_execs_cons (ks_wpAt_Expr_any (ks_wpAt_MethodCall ?_ (mc_eq k22 rfl)) (by simp [interactive, ksEnv, envX, k13]) rfl)
  obtain ⟨oD, hD1, hD2⟩ : ∃ oD, h₁.get? C = some oD ∧ oD.data = .cls cdD := by
    unfold clsIn at k7
    split at k7
    · rename_i c d cd' sl ho
      cases k7
      exact ⟨_, K1 _ _ ho, rfl⟩
    · cases k7
  have I1 : InstAt h₁ e (excObj C t0 none .none) C none := InstAt.of_exc0 N1 (by simp)
  refine ks_wpAt_super_base (kn _ _ (by decide)) (kn _ _ (by decide)) (by decide) rfl (K1 _ _ k1) rfl k10 rfl (K1 _ _ k3) rfl k4 k5 k17 ?_
  refine ks_loadName_global k13 (kn _ _ (by decide)) (Calls.loadGlobal_builtin (M.glob.keeps st1) (mg_none_of M.kin M.glob k9) (hmb.keeps st1) ((hmb2 _ (by decide)).trans (by decide +kernel)) ⟨rfl, ?_⟩)
  refine wpAny_loadName_free k13 (kn _ _ (by decide)) rfl ⟨_, K1 _ _ k6, rfl⟩ ?_
  rw [k11]
  refine wpAny_loadName_local k13 (kn _ _ (by decide)) F1.ns (by rfl) ?_
  refine ks_wpAny_isType_cls hD1 hD2 ⟨rfl, ?_⟩
  refine ks_wpAny_call_super hD1 hD2 I1.at_ I1.cls (fun c z => ?_) (looks_mroIn K1 k8) (fun h' e' k => ?_)
  · have := I1.no
    unfold notCls at this
    rw [z] at this
    exact Bool.noConfusion this
  obtain ⟨F2, N2, l2⟩ := ks_newsPush (s := ⟨h₁, s.gens, s.drawn, s.toks + 2, s.os⟩) F1 N1 rfl e' k
  refine kxs_method (so := h₁.objs.size) kxs_ValueError F2 KG N2 List.mem_cons_self (InstAt.of_exc0 N2 (List.mem_cons_of_mem _ List.mem_cons_self)) k18 k19 k20 (by decide) (fun q h3 F3 N3 l3 => ?_)
  show wpAny _ _ (callWith p7 (.ref q) [] (backTo p7 (starEach [.JoinedStr [.Constant (.str m) n p3, .FormattedValue (.Name "line" p4) (-1) none p5] p6] (ksEnv "ParseError.__init__" scope L f (.ref cda) cc))) []) _ _ _
  refine kxs_callWith1 N3 List.mem_cons_self ?_ rfl rfl
  show wpAny _ _ (spliced ((false, eval (.JoinedStr [.Constant (.str m) n p3, .FormattedValue (.Name "line" p4) (-1) none p5] p6) (ksEnv "ParseError.__init__" scope L f (.ref cda) cc)) :: [])) _ _ _
  have len2 : (Str.ofString (toString i)).length ≤ 1921 := by
    have := int_text_length_le (k := 1920) (by decide) hi
    rw [PySem.ofString_length]
    exact this
  refine Calls.spliced_cons (JoinedStr_many (joinParts_cons (wpAny_Constant_str ⟨?_, joinParts_cons (FormattedValue_plain (wpAny_Name (wpAny_loadName_local k13 (kn _ _ (by decide)) F3.ns (by rfl) (formatField_int_small hi ⟨?_, ?_⟩))))⟩)))
  · rw [strLen_append, sizeLine_eq]
    have : (Str.empty : Str).length = 0 := rfl
    omega
  · rw [strLen_append, strLen_append, sizeLine_eq]
    have : (Str.empty : Str).length = 0 := rfl
    have l2' : (toString i : Str).length ≤ 1921 := len2
    omega
  refine joinParts_nil ?_ ?_
  case refine_2 =>
    rw [strLen_append, strLen_append, sizeLine_eq]
    have : (Str.empty : Str).length = 0 := rfl
    have l2' : (toString i : Str).length ≤ 1921 := len2
    omega
  refine Calls.spliced_nil ⟨kxs_at N3 List.mem_cons_self, ?_⟩
  have hqe : q ≠ e := fun z => Nat.lt_irrefl e (z ▸ l3 (e, excObj C t0 none .none) (List.mem_cons_of_mem _ List.mem_cons_self))
  have hse : h₁.objs.size ≠ e := fun z => Nat.lt_irrefl e (z ▸ l2 (e, excObj C t0 none .none) List.mem_cons_self)
  refine kxs_call F3 KG N3 PySem.F.excBase_ValueError k21 List.mem_cons_self (UpdF.tail hqe (UpdF.tail hse (UpdF.head (fun p hp => by cases hp)))) (by rw [sizeLine_eq]; simp) (fun t1 h4 F4 N4 l4 => ?_)
  show PySem.wpAt _ _ _ (PySem.execs [.Assign [.Attribute (.Name "self" q1) "line" q2] (.Name "line" q3) q4] (ksEnv "ParseError.__init__" scope L f (.ref cda) cc)) _ _ _
  refine ks_wpAt_execs_cons (PySem.wpAt_of_wpAny (plainObj_wpAny_Assign_Attribute (wpAny_Name (wpAny_loadName_local k13 (kn _ _ (by decide)) F4.ns (by rfl) (wpAny_Name (wpAny_loadName_local k13 (kn _ _ (by decide)) F4.ns (by rfl) ?_)))) rfl))
  have K4 : K.In h4 := KG.keeps F4.keep
  have hx4 : h4.get? e = some (excObj C t1 none .none) := (N4 (e, excObj C t1 none .none) (by simp)).1
  have I4 : InstAt h4 e (excObj C t1 none .none) C none := ⟨hx4, rfl, rfl, trivial⟩
  obtain ⟨nm, qn, Nn, bs, bm, sn, sub, ab, col, dd, j0, j1, j2, j3, j5, hC, hbm⟩ := T.cls
  have hcl : clsIn K C = some { name := nm, bases := bs, mro := .ref C :: bm, ns := Nn, qualname := qn, hasDict := true, slotNames := sn, subclasses := sub, abstract := ab, collection := col, hasDel := false } := by unfold clsIn; rw [hC] <;> rfl
  refine set_plain K4 I4 T.sa ?_
  refine PySem.HandSPX.exc_osa K4 hx4 hcl (show PySem.HandSPX.refsVE (.ref C :: bm) = true from hbm) rfl hl (fun h5 tk' dx k5 dn dne hx hn5 => ?_)
  show PySem.wpAt _ _ _ (PySem.execs [] _) _ _ _
  refine PySem.wpAt_of_wpAny (wpAny_pure ?_)
  refine h h5 tk' t1 dx (fun b o hbe z => k5 b o hbe (F4.keep b o (hideAll_get _ z (by simpa using hbe)))) ?_ dne hx hn5
  cases z : s.heap.get? dx with
  | none => rfl
  | some o =>
    have z2 := F4.keep dx o (hideAll_get _ z (by simpa using dne))
    exact absurd (Heap.lt_size z2) (Nat.not_lt.mpr dn)
end

section
variable {X : L2.Cx} {pins : List (Addr × Obj)} {σ : L2.St} {H : Hp} {s : Shared}
/-- an exception that is being made gets its dict -/
theorem exo_grow {a C dx t1 : Addr} {fl : Str} {y : V} {u : Value} {h' : Heap} {tk' : Nat} (I : Inv X pins σ H s) (e : H a = some (exo a C none)) (ry : RelV y u) (k : ∀ b o, b ≠ a → s.heap.get? b = some o → h'.get? b = some o)
    (dn : s.heap.get? dx = none) (dne : dx ≠ a) (hx : h'.get? a = some { cls := .ref C, dict := some dx, data := .fields #[.ref t1, .none, .none, .none, .bool false, .none] })
    (hns : h'.Ns1 dx (fun z => if z = fl then some u else none)) : Inv X pins σ (upd (upd H dx (exd dx [(fl, y)])) a (exo a C (some dx))) { s with heap := h', toks := tk' } := by
  have hd0 : H dx = none := I.hok.gone dn
  have old : ∀ {b : Addr} {o : Obj}, s.heap.get? b = some o → b ≠ dx := fun {b o} z r => by
    rw [r, dn] at z
    cases z
  have une : ∀ {b : Addr}, H b = none → b ≠ a := fun {b} z r => by
    rw [r, e] at z
    cases z
  have kinds : ∀ {b : Addr} {o : HO}, H b = some o → (o ≠ exo a C none) → upd (upd H dx (exd dx [(fl, y)])) a (exo a C (some dx)) b = some o := fun {b o} z nz => by
    have n1 : b ≠ a := fun r => by
      rw [r, e] at z
      exact nz (Option.some.inj z).symm
    have n2 : b ≠ dx := fun r => by
      rw [r, hd0] at z
      cases z
    rw [upd_ne n1, upd_ne n2]
    exact z
  have un : Un X.fs [] H (upd (upd H dx (exd dx [(fl, y)])) a (exo a C (some dx))) s.heap h' := by
    refine ⟨fun b o z hb _ _ => k b o (une hb) z, fun b o z hb _ _ => ⟨o.slots, k b o (une hb) z⟩, fun b o z hb _ => ?_, fun b o z _ => ?_, fun b xs z => kinds z exo_tup.symm, fun b o v z => kinds z exo_frz.symm, fun b ps z => ⟨#[], ?_⟩⟩
    · rw [upd_ne (une hb), upd_ne (old z)]
      exact hb
    · by_cases hb : b = a
      · exact ⟨_, hb ▸ hx⟩
      · exact ⟨o, k b o hb z⟩
    · rw [kinds z exo_tbl.symm]
      simp
  refine I.un (t' := tk') un fun b o z => ?_
  by_cases hba : b = a
  · rw [hba] at z ⊢
    rw [upd_same] at z
    cases z
    exact exo_ok hx
  rw [upd_ne hba] at z
  by_cases hbd : b = dx
  · rw [hbd] at z ⊢
    rw [upd_same] at z
    cases z
    exact exd_ok hns (relO_put (fs := []) ry fun _ => True.intro)
  rw [upd_ne hbd] at z
  refine (I.hok b o z).stay (fun x v hx' q => k x v ?_ q) (fun x hx' => kinds hx' exo_own.symm) fun x xs hx' => kinds hx' exo_tup.symm
  rcases hx' with hx' | hx'
  · rw [hx']
    exact hba
  · intro r
    rw [r, e] at hx'
    exact exo_own (Option.some.inj hx')
theorem par_done {H1 : Hp} {hp h2 h' : Heap} {g : Array GenState} {dr : Drawn} {tk1 tk' : Nat} {os : OsState} {C dx t1 : Addr} {i : Int} {tk : Tok} {Q : VK} (I1 : Inv X pins σ H1 ⟨hp, g, dr, tk1, os⟩)
    (I2 : Inv X pins σ (upd H1 (hp.objs.size + 1) (exo (hp.objs.size + 1) C none)) ⟨h2, g, dr, tk1, os⟩) (hn : H1 (hp.objs.size + 1) = none) (kk : ∀ b o, hp.get? b = some o → h2.get? b = some o)
    (keep : ∀ b o, b ≠ hp.objs.size + 1 → h2.get? b = some o → h'.get? b = some o) (dn : h2.get? dx = none) (dne : dx ≠ hp.objs.size + 1)
    (hx : h'.get? (hp.objs.size + 1) = some { cls := .ref C, dict := some dx, data := .fields #[.ref t1, .none, .none, .none, .bool false, .none] }) (hns : h'.Ns1 dx (fun z => if z = ("line" : Str) then some (.int i tk) else none))
    (q1 : ∀ a dx, H1 a = none → H1 dx = none → dx ≠ a → Q (.ref a) (upd (upd H1 dx (exd dx [("line", .int i)])) a (exo a C (some dx)))) :
    PySem.W.InitBack (hp.objs.size + 1) (fun r s' => match r with
      | .ok (.ret v) => EP X pins σ Q v s'
      | .ok _ => False
      | .error e => X.xe e s') (.ok (.ret .none)) ⟨h', g, dr, tk', os⟩ := by
  have J := exo_grow (tk' := tk') (y := .int i) (fl := "line") I2 upd_same ⟨tk, rfl⟩ keep dn dne hx hns
  have hdx : H1 dx = none := I1.hok.gone (by
    cases z : hp.get? dx with
    | none => rfl
    | some o => have := kk dx o z; rw [show h2.get? dx = none from dn] at this; cases this)
  refine ⟨rfl, .ref (hp.objs.size + 1), _, J, rfl, ?_⟩
  have e3 : upd (upd (upd H1 (hp.objs.size + 1) (exo (hp.objs.size + 1) C none)) dx (exd dx [("line", .int i)])) (hp.objs.size + 1) (exo (hp.objs.size + 1) C (some dx)) = upd (upd H1 dx (exd dx [("line", .int i)])) (hp.objs.size + 1) (exo (hp.objs.size + 1) C (some dx)) := by
    funext b
    by_cases hb : b = hp.objs.size + 1
    · rw [hb, upd_same, upd_same]
    · rw [upd_ne hb, upd_ne hb]
      by_cases hd : b = dx
      · rw [hd, upd_same, upd_same]
      · rw [upd_ne hd, upd_ne hd, upd_ne hb]
  rw [e3]
  exact q1 _ _ hn hdx dne
/-- ParseError(e): a new exception with its dict -/
def tPar (C : Addr) (te : TE) : TE := fun σ H Q => te σ H fun y H1 => ∃ i, y = .int i ∧ i.natAbs.log2 < 1920 ∧ ∀ a dx, H1 a = none → H1 dx = none → dx ≠ a → Q (.ref a) (upd (upd H1 dx (exd dx [("line", .int i)])) a (exo a C (some dx)))
theorem pe_par {x : Str} {C fI : Addr} {e : Expr} {te : TE} {p pos : Pos} {k : Nat} (P : ParK X.prog X.K C fI) (T : OexC X.K C) (hl : PySem.W.findIn X.K (.ref C) "line" = some none) (iC : PySem.W.findIn X.K (.ref C) "__init__" = some (some (.ref fI))) (tI : PySem.W.typeIn X.K (.ref fI) = some (.type "function"))
    (hbind : ∀ (s : Shared) (a : Addr) (i : Int) (tk : Tok) fd oc od osl, X.K.lookup fI = some ⟨oc, od, .func fd, osl⟩ → BindsTo s fd ⟨[.ref a, .int i tk], []⟩ [("self", .ref a), ("line", .int i tk)])
    (hr : Room k X.A) (hg : Gl X x) (hm : X.mg x = some (.ref C)) (ha : PE X e te) (hs : starEach [e] X.env = (false, eval e X.env) :: starEach [] X.env) (hdb : (x == ("__debug__" : Str)) = false) :
    PE X (.Call (.Name x p) [e] [] pos) (tPar C te) := by
  refine ⟨fun pins s σ H Q I h => ?_⟩
  obtain ⟨nm, q, N, bs, bm, sn, sub, ab, col, dd, k0, k1, k2, k3, k5, hC, hbm⟩ := T.cls
  refine wpAny_Call_Name_kw (ld_glob I hg hm ?_ hdb)
  refine PySem.W.callWith_K (h₀ := X.base) I.ok.mod.kin T.kC ?_ hs (by rfl)
  rw [hs]
  refine Calls.spliced_cons (thn (ha.run pins s σ H _ I h) fun u s1 ⟨y, H1, I1, r1, i, ey, hi, q1⟩ => ?_)
  subst ey
  obtain ⟨tk, rfl⟩ := r1
  refine Calls.spliced_nil ⟨I1.kIn, ?_⟩
  show wpAny _ _ (call (.ref C) [.int i tk]) _ _ _
  obtain ⟨hp, g, dr, tk1, os⟩ := s1
  have nn : hp.get? (hp.objs.size + 1) = none := Heap.get?_none_of_le (Nat.le_succ _)
  have hn : H1 (hp.objs.size + 1) = none := I1.hok.gone nn
  generalize hh2 : (hp.push (PySem.W.kdv_tup [.int i tk])).push (PySem.HandSPX.excO C hp.objs.size) = h2
  have kk : ∀ b o, hp.get? b = some o → h2.get? b = some o := fun b o z => by rw [← hh2]; exact Heap.get?_push_of_some _ (Heap.get?_push_of_some _ z)
  have hget : h2.get? (hp.objs.size + 1) = some (PySem.HandSPX.excO C hp.objs.size) := by rw [← hh2]; heap_get
  have I2 : Inv X pins σ (upd H1 (hp.objs.size + 1) (exo (hp.objs.size + 1) C none)) ⟨h2, g, dr, tk1, os⟩ := I1.laid (t' := tk1) (h' := h2) kk (Nat.le_succ _) (exo_ok hget)
  refine wpAny_call (PySem.HandSPX.call_own PySem.F.excBase_ValueError (fun Y => PySem.HandSPX.refsVE_contains Y bm hbm) (I1.kIn _ _ hC) (PySem.W.looks_findIn I1.kIn iC) (fun self => PySem.W.bind_fn I1.kIn self tI) (by rw [sizeLine_eq]; simp) ?_)
  rw [hh2]
  have bsz : X.base.objs.size ≤ hp.objs.size := Nat.le_trans I1.ok.bsz I1.sz
  refine par_initA (s := ⟨h2, g, dr, tk1, os⟩) (t0 := hp.objs.size) P T hl I.ok.mod (fun b o z => I2.bk b o z) hget (Heap.get?_none_of_le (Nat.le_trans bsz (Nat.le_succ _))) (Nat.le_trans bsz (by rw [← hh2, Heap.size_push, Heap.size_push]; omega)) (by rw [make_depth]; have := hr.dp; omega) hi
    (fun fd oc od osl z => hbind _ _ i tk fd oc od osl z) fun h' tk' t1 dx keep dn dne hx hns => ?_
  exact par_done I1 I2 hn kk keep dn dne hx hns q1
end
end FT
end

section
set_option Elab.async false
set_option linter.all false
set_option maxRecDepth 100000
set_option autoImplicit false
/-! FT.ParKw: the same made with its argument by name. -/
namespace FT
open PySem L2 LamX PyProof.Rows PySem.HandSPX
section
variable {M : Model} {A : Around} {E : Value → Shared → Prop} {hh : Heap} {gg : Array GenState} {dw : Drawn} {tk : Nat} {os : OsState}
variable {nm q : Str} {C N : Addr} {bs bm : List Value} {hdct : Bool} {sn : List Str} {sub : List Value} {ab : Bool} {col : Option Bool} {dd : Option Addr} {k0 k1 k2 k3 k5 : Option Value} {kn : Str} {kv : Value}
theorem kw_check_new (hv : refsVE bm = true) {Q : Unit → Shared → Prop} (cls : hh.get? C = some (excClassObj nm q C N bs bm hdct sn sub ab col dd k0 k1 k2 k3 k5 "ValueError.__new__")) (fin : Q () ⟨hh, gg, dw, tk, os⟩) :
    wpAny M A (checkBuiltinCall "ValueError.__new__" ⟨[.ref C], [(kn, kv)]⟩) Q E ⟨hh, gg, dw, tk, os⟩ := by
  have has : (Value.ref C :: bm).contains (.type "ValueError") = true := by
    rw [List.contains_cons, refsVE_contains "ValueError" bm hv]
    show (false || veTail.contains (.type "ValueError")) = true
    decide +kernel
  have st := PySem.F.excBase_ValueError.noStar
  simp only [checkBuiltinCall, PySem.F.excBase_ValueError.newKind, PySem.F.excBase_ValueError.newSplit, PySem.F.excBase_ValueError.newRow]
  repeat (first
    | refine wpAny_loadPart_at cls ?_
    | (refine wpAny_isSubtype_exc cls ?_; rw [has])
    | refine wpAny_staticBase_exc cls ?_
    | refine wpAny_madeBy_exc cls ?_
    | simp only [bne_self_eq_false, Bool.false_eq_true, if_false]
    | wp_step)
  exact fin
end
section
variable {P : Program} {w : World} {A : Around} {E : Value → Shared → Prop} {R : Result → Shared → Prop} {hh : Heap} {gg : Array GenState} {dw : Drawn} {tk : Nat} {os : OsState}
variable {nm q : Str} {C N fI : Addr} {bs bm : List Value} {hdct : Bool} {sn : List Str} {sub : List Value} {ab : Bool} {col : Option Bool} {dd : Option Addr} {k0 k1 k2 k3 k5 : Option Value} {kn : Str} {kv : Value}
theorem kw_new (hv : refsVE bm = true) (cls : hh.get? C = some (excClassObj nm q C N bs bm hdct sn sub ab col dd k0 k1 k2 k3 k5 "ValueError.__new__"))
    (fin : R (.ok (.ret (.ref (hh.objs.size + 1)))) ⟨(hh.push (PySem.W.kdv_tup [])).push (excO C hh.objs.size), gg, dw, tk, os⟩) :
    codeAny (model P w) A (.builtin "ValueError.__new__" ⟨[.ref C], [(kn, kv)]⟩) R ⟨hh, gg, dw, tk, os⟩ := by
  have en := PySem.F.excBase_ValueError.ends
  have hB : (Value.ref C :: bm).contains (.type "ValueError") = true := by
    rw [List.contains_cons, refsVE_contains "ValueError" bm hv]; show (false || veTail.contains (.type "ValueError")) = true; decide +kernel
  have hA : (Value.ref C :: bm).contains (.type "AttributeError") = false := by
    rw [List.contains_cons, refsVE_contains "AttributeError" bm hv]; show (false || veTail.contains (.type "AttributeError")) = false; decide +kernel
  have hN : (Value.ref C :: bm).contains (.type "NameError") = false := by
    rw [List.contains_cons, refsVE_contains "NameError" bm hv]; show (false || veTail.contains (.type "NameError")) = false; decide +kernel
  refine codeAny_builtinAt PySem.F.excBase_ValueError.entry ?_
  unfold Builtin.«BaseException.__new__»
  refine PySem.wpAt_bind ?_
  show PySem.wpAt _ _ _ (stack >>= _) _ _ _
  refine PySem.wpAt_bind (PySem.wpAt_stack fun pp below => PySem.wpAt_of_wpAny ?_)
  wp_walk
  refine PySem.wpAt_of_wpAny ?_
  rw [PySem.F.excBase_ValueError.owner]
  repeat (first
    | with_reducible refine wpAny_madeHere_exc PySem.F.excBase_ValueError.canon cls ?_
    | with_reducible refine wpAny_loadPart_at cls ?_
    | (with_reducible refine wpAny_isSubtype_exc cls ?_; first | rw [hB] | rw [hA] | rw [hN])
    | wp_step)
  show R _ _
  rw [Heap.size_push]
  exact fin
theorem kw_type (hv : refsVE bm = true) {Q : Fin → Shared → Prop} (cls : hh.get? C = some (excClassObj nm q C N bs bm hdct sn sub ab col dd k0 k1 k2 k3 k5 "ValueError.__new__"))
    (look : W.Looks (model P w) hh (typeLookup (.ref C) "__init__") (some (.ref fI))) (bnd : ∀ self, W.Looks (model P w) hh (bindSpecial (.ref fI) self) (.ref fI, [self]))
    (run : codeAny (model P w) A (.call (.ref fI) ⟨[.ref (hh.objs.size + 1)], [(kn, kv)]⟩)
      (fun r s' => match r with | .ok (.ret v) => v = .none ∧ Q (.done (.ret (.ref (hh.objs.size + 1)))) s' | .ok _ => False | .error e => E e s')
      ⟨(hh.push (PySem.W.kdv_tup [])).push (excO C hh.objs.size), gg, dw, tk, os⟩) :
    wpAny (model P w) A (Builtin.«type.__call__» ⟨[.ref C], [(kn, kv)]⟩) Q E ⟨hh, gg, dw, tk, os⟩ := by
  repeat (first
    | with_reducible refine wpAny_loadPart_at cls ?_
    | with_reducible refine wpAny_madeBy_exc cls ?_
    | wp_step)
  refine codeAny_call_builtin_code (Code.quiet_builtin _ PySem.F.excBase_ValueError.quiet) (kw_check_new hv cls ?_)
  refine kw_new hv cls ?_
  show wpAny _ _ _ _ _ _
  have keep : ∀ b o, hh.get? b = some o → ((hh.push (PySem.W.kdv_tup [])).push (excO C hh.objs.size)).get? b = some o := fun b o z => Heap.get?_push_of_some _ (Heap.get?_push_of_some _ z)
  have made : ((hh.push (PySem.W.kdv_tup [])).push (excO C hh.objs.size)).get? (hh.objs.size + 1) = some (excO C hh.objs.size) := by heap_get
  have self : (Value.ref C :: bm).contains (.ref C) = true := by simp
  have look1 := look.keeps keep
  have bnd1 := (bnd (.ref (hh.objs.size + 1))).keeps keep
  have cls1 := keep _ _ cls
  unfold isInstance
  repeat (first
    | with_reducible refine wpAny_loadPart_at made ?_
    | (with_reducible refine wpAny_isSubtype_exc cls1 ?_; rw [self])
    | wp_step)
  show wpAny _ _ (typeLookup (.ref C) _) _ _ _
  refine look1.at ?_
  refine wpAny_holding (wpAny_bind (bnd1.at ?_))
  refine wpAny_bind (wpAny_call (codeAny_mono run fun r s' z => ?_))
  rcases r with e | (v | _ | _ | _) <;> first | exact z | exact z.elim | skip
  obtain ⟨rfl, z⟩ := z
  first
    | exact wpAny_pure (wpAny_pure z)
    | (wp_walk; exact z)
theorem kw_check_type {M : Model} {Q : Unit → Shared → Prop} (cls : hh.get? C = some (excClassObj nm q C N bs bm hdct sn sub ab col dd k0 k1 k2 k3 k5 "ValueError.__new__")) (fin : Q () ⟨hh, gg, dw, tk, os⟩) :
    wpAny M A (checkBuiltinCall "type.__call__" ⟨[.ref C], [(kn, kv)]⟩) Q E ⟨hh, gg, dw, tk, os⟩ := by
  have f3 := tc_sub
  have ty : (⟨hh, gg, dw, tk, os⟩ : Shared).TypeIs (.ref C) "type" := ⟨_, cls, rfl⟩
  simp only [checkBuiltinCall, tc_kind, tc_split]
  repeat (any_goals (first
    | assumption
    | with_reducible refine wpAny_loadPart_at cls ?_
    | with_reducible refine wpAny_onRaise ?_
    | with_reducible refine wpAny_map ?_
    | wp_step))
theorem kw_call (hv : refsVE bm = true) (cls : hh.get? C = some (excClassObj nm q C N bs bm hdct sn sub ab col dd k0 k1 k2 k3 k5 "ValueError.__new__"))
    (look : W.Looks (model P w) hh (typeLookup (.ref C) "__init__") (some (.ref fI))) (bnd : ∀ self, W.Looks (model P w) hh (bindSpecial (.ref fI) self) (.ref fI, [self]))
    (run : codeAny (model P w) (A.under (.builtin "type.__call__" ⟨[.ref C], [(kn, kv)]⟩)) (.call (.ref fI) ⟨[.ref (hh.objs.size + 1)], [(kn, kv)]⟩) (W.InitBack (hh.objs.size + 1) R)
      ⟨(hh.push (PySem.W.kdv_tup [])).push (excO C hh.objs.size), gg, dw, tk, os⟩) :
    codeAny (model P w) A (.call (.ref C) ⟨[], [(kn, kv)]⟩) R ⟨hh, gg, dw, tk, os⟩ := by
  have l1 := tc_lookup
  have l2 := tc_bind (.ref C)
  have ty : (⟨hh, gg, dw, tk, os⟩ : Shared).TypeIs (.ref C) "type" := ⟨_, cls, rfl⟩
  refine codeAny_of_tree ?_
  show wpAny _ _ (callAny (.ref C) _) _ _ _
  repeat (any_goals (first
    | assumption
    | with_reducible refine wpAny_loadPart_at cls ?_
    | wp_step))
  refine ⟨rfl, ?_⟩
  refine codeAny_call_builtin_at (Code.quiet_builtin _ (by decide +kernel)) entry_typeCall (kw_check_type cls (kw_type hv cls look bnd ?_))
  refine codeAny_mono run fun r s' z => ?_
  rcases r with e | (v | _ | _ | _) <;> exact z
end
section
variable {X : L2.Cx}
/-- ParseError(line=e) -/
def tParK (C : Addr) (tk : TA) : TE := fun σ H Q => tk σ H fun ys H1 => ∃ i, ys = [.int i] ∧ i.natAbs.log2 < 1920 ∧ ∀ a dx, H1 a = none → H1 dx = none → dx ≠ a → Q (.ref a) (upd (upd H1 dx (exd dx [("line", .int i)])) a (exo a C (some dx)))
theorem pe_parK {x : Str} {C fI : Addr} {kws : List Keyword} {tt : TA} {p pos : Pos} {k : Nat} (P : ParK X.prog X.K C fI) (T : OexC X.K C) (hl : PySem.W.findIn X.K (.ref C) "line" = some none) (iC : PySem.W.findIn X.K (.ref C) "__init__" = some (some (.ref fI))) (tI : PySem.W.typeIn X.K (.ref fI) = some (.type "function"))
    (hbind : ∀ (s : Shared) (a : Addr) (i : Int) (tk : Tok) fd oc od osl, X.K.lookup fI = some ⟨oc, od, .func fd, osl⟩ → BindsTo s fd ⟨[.ref a], [("line", .int i tk)]⟩ [("self", .ref a), ("line", .int i tk)])
    (hr : Room k X.A) (hg : Gl X x) (hm : X.mg x = some (.ref C)) (ha : PK X kws tt)
    (hall : (backToKw pos (keywordEach kws X.env)).all (·.1.isSome) = true) (hks : (backToKw pos (keywordEach kws X.env)).filterMap (·.1) = [("line" : Str)]) (hdb : (x == ("__debug__" : Str)) = false)
    (hpl : ((backTo pos (starEach [] X.env)).any (·.1) || (backToKw pos (keywordEach kws X.env)).any (·.1.isNone)) = false) :
    PE X (.Call (.Name x p) [] kws pos) (tParK C tt) := by
  refine ⟨fun pins s σ H Q I h => ?_⟩
  obtain ⟨nm, q, N, bs, bm, sn, sub, ab, col, dd, k0, k1, k2, k3, k5, hC, hbm⟩ := T.cls
  refine wpAny_Call_Name_kw (ld_glob I hg hm ?_ hdb)
  refine PySem.W.callWith_KW0 (h₀ := X.base) I.ok.mod.kin T.kC hall ?_ hpl
  refine thn (ha.run pos pins s σ H _ I h) fun ws s2 ⟨zs, H1, I1, rz, i, ez, hi, q1⟩ => ⟨I1.kIn, ?_⟩
  rw [hks]
  subst ez
  obtain ⟨u, rfl, ru⟩ := rz.one
  obtain ⟨tk, rfl⟩ := ru
  show wpAny _ _ (call (.ref C) [] [(("line" : Str), .int i tk)]) _ _ _
  obtain ⟨hp, g, dr, tk1, os⟩ := s2
  have nn : hp.get? (hp.objs.size + 1) = none := Heap.get?_none_of_le (Nat.le_succ _)
  have hn : H1 (hp.objs.size + 1) = none := I1.hok.gone nn
  generalize hh2 : (hp.push (PySem.W.kdv_tup [])).push (PySem.HandSPX.excO C hp.objs.size) = h2
  have kk : ∀ b o, hp.get? b = some o → h2.get? b = some o := fun b o z => by rw [← hh2]; exact Heap.get?_push_of_some _ (Heap.get?_push_of_some _ z)
  have hget : h2.get? (hp.objs.size + 1) = some (PySem.HandSPX.excO C hp.objs.size) := by rw [← hh2]; heap_get
  have I2 : Inv X pins σ (upd H1 (hp.objs.size + 1) (exo (hp.objs.size + 1) C none)) ⟨h2, g, dr, tk1, os⟩ := I1.laid (t' := tk1) (h' := h2) kk (Nat.le_succ _) (exo_ok hget)
  refine wpAny_call (kw_call hbm (I1.kIn _ _ hC) (PySem.W.looks_findIn I1.kIn iC) (fun self => PySem.W.bind_fn I1.kIn self tI) ?_)
  rw [hh2]
  have bsz : X.base.objs.size ≤ hp.objs.size := Nat.le_trans I1.ok.bsz I1.sz
  refine par_initA (s := ⟨h2, g, dr, tk1, os⟩) (t0 := hp.objs.size) P T hl I.ok.mod (fun b o z => I2.bk b o z) hget (Heap.get?_none_of_le (Nat.le_trans bsz (Nat.le_succ _))) (Nat.le_trans bsz (by rw [← hh2, Heap.size_push, Heap.size_push]; omega)) (by rw [make_depth]; have := hr.dp; omega) hi
    (fun fd oc od osl z => hbind _ _ i tk fd oc od osl z) fun h' tk' t1 dx keep dn dne hx hns => ?_
  exact par_done I1 I2 hn kk keep dn dne hx hns q1
end
end FT
end

section
set_option Elab.async false
set_option linter.all false
set_option maxRecDepth 100000
set_option autoImplicit false
/-! FT.ParL: its field is read; isinstance of an exception that has a dict. -/
namespace FT
open PySem L2 LamX PyProof.Rows
section
open PySem.W
variable {P : Program} {w : World} {A : Around} {E : Value → Shared → Prop} {st : Shared} {K : Frag} {x D : Addr} {ox od : Obj}
theorem cls_dict (T : ExcC K D) {Q : Option Value → Shared → Prop} (kin : K.In st.heap) (ia : InstAt st.heap x ox D (some od)) (fin : Q (some (.ref D)) { st with toks := st.toks + 1 }) : wpAny (model P w) A (getAttr? (.ref x) "__class__") Q E st := by
  have fo : findObj K D (some od) "__class__" = some (.bind (.builtin "getset_descriptor.__get__") (.builtin "object.__class__")) := findObj_data (by obtain ⟨cd, hc, _⟩ := any_some T.hd; rw [hc]; rfl) T.ha T.hn T.ht
  obtain ⟨hp, g, d, t, os⟩ := st
  have ty := ia.type (M := model P w)
  have lga := looks_findIn (M := model P w) kin T.hg
  have lgt := looks_findIn (M := model P w) kin T.hk
  have lf := looks_find (M := model P w) kin ia fo
  have isE : Looks (model P w) hp (isInstance (.ref x) (.type "BaseException")) true := ty.andThen (looks_subIn kin T.hs)
  have n1 : (Value.builtin "BaseException.__getattribute__" == Value.builtin "object.__getattribute__") = false := by decide +kernel
  have n2 : (onTheHeap (Value.ref D) && Value.builtin "BaseException.__getattribute__" == Value.builtin "object.__getattribute__") = false := by rw [n1, Bool.and_false]
  unfold getAttr? getAttrBy? getAttrBy; refine wpAny_bind (wpAny_mkText (wpAny_bind (wpAny_attempt (wpAny_holding (wpAny_bind (ty.at (wpAny_bind (lga.at ?_))))))))
  refine KFB.if_not n2 ?_
  unfold getAttrByItsOwn hookBefore; refine wpAny_bind (KFB.if_so rfl (lgt.at ?_))
  refine wpAny_bind (wpAny_attempt (wpAny_holding ?_)); unfold callGetattribute
  refine KFB.if_not rfl ?_
  unfold boundAndCalled; rw [PySem.F.excAttr_ValueError.ga.bind (.ref x)]; refine wpAny_bind (wpAny_pure ?_)
  show wpAny _ _ (call (.builtin "BaseException.__getattribute__") [.ref x, .str ("__class__" : Str) t]) _ _ _
  refine wpAny_call (codeAny_call_builtin PySem.F.excAttr_ValueError.ga.plain PySem.F.entry_bexc_ga (@check_slot (model P w) _ _ ⟨hp, g, d, t + 1, os⟩ "BaseException.__getattribute__" "BaseException" "__getattribute__" (.ref x) [.str "__class__" t] [] _ (by decide +kernel) (by decide +kernel) isE (PySem.F.args_bexc_ga (.ref x) (.str "__class__" t)) ?_))
  unfold Builtin.«object.__getattribute__»; refine wpAny_bind (wpAny_of_eq (a := ((Value.ref x : Value), [Value.str "__class__" t])) (by first | rfl | (simp only [slotArgs]; rfl)) (wpAny_bind (wpAny_pure (wpAny_bind (ty.at (wpAny_bind (lf.at ?_)))))))
  show wpAny _ _ (holding [Value.builtin "object.__class__"] (call (.builtin "getset_descriptor.__get__") [.builtin "object.__class__", Value.ref x, Value.ref D]) >>= ret) _ _ _
  refine wpAny_bind (wpAny_holding (wpAny_call (class_get (s := ⟨hp, g, d, t + 1, os⟩) (ox := ox) (od := some od) kin ia T.hm (wpAny_pure ?_))))
  show wpAny _ _ (handedOut (Value.ref D)) _ _ _
  rw [handedOut_of (v := Value.ref D) rfl]
  first
    | exact wpAny_pure (wpAny_pure fin)
    | exact wpAny_pure fin
    | exact wpAny_pure (wpAny_bind (wpAny_pure (wpAny_pure fin)))
theorem kitx_dictE (T : ExcC K D) : KitX K (.ref x) (.ref D) (fun h => InstAt h x ox D (some od)) where
  ty := fun _ _ _ ia => ia.type
  it := fun _ _ kin _ => by
    obtain ⟨cd0, hc0, _⟩ := any_some T.hd
    unfold clsIn at hc0; split at hc0
    · rename_i c1 d1 cd1 sl1 lk
      intro A1 Q1 E1 s1 k1 q1
      unfold isType loadHead; exact wpAny_bind (wpAny_loadPart (k1 _ _ (kin _ _ lk)) (wpAny_pure q1))
    · cases hc0
  ne := fun h tp dd its n sl kin htp => by
    obtain ⟨cd0, hc0, _⟩ := any_some T.hd
    refine Bool.eq_false_iff.mpr fun q => ?_
    have e : D = tp := Value.ref.inj (beq_iff_eq.mp q)
    subst e
    unfold clsIn at hc0; split at hc0
    · rename_i c1 d1 cd1 sl1 lk
      have z := (kin _ _ lk).symm.trans htp
      cases z
    · cases hc0
  ca := fun kin ia fin => cls_dict T kin ia fin
end
/-- it with its dict, in the heap -/
theorem exo_inst {X : L2.Cx} {pins : List (Addr × Obj)} {σ : L2.St} {H : Hp} {s : Shared} {a C dd : Addr} {fs : List (Str × V)} (I : Inv X pins σ H s) (ea : H a = some (exo a C (some dd))) (ed : H dd = some (exd dd fs)) :
    ∃ ox od mA, PySem.W.InstAt s.heap a ox C (some od) ∧ s.heap.Ns1 dd mA ∧ (∀ f, RelO (fs.lookup f) (mA f)) ∧ s.heap.get? dd = some od := by
  obtain ⟨t1, ho⟩ := exo_at I.hok ea
  obtain ⟨mA, hns, rel⟩ := exd_at I.hok ed
  obtain ⟨od, es, ep, hod, hr⟩ := id hns
  exact ⟨_, od, mA, ⟨ho, rfl, rfl, hod⟩, hns, rel, hod⟩
theorem call_isP {X : L2.Cx} : CallR X (.builtin "isinstance") (fun xs H Q => ∃ (a D dd : Addr) (fs : List (Str × V)) (t : V) (tv : Value) (b : Bool), xs = [.ref a, t] ∧ (∀ u, RelV t u → u = tv) ∧ H a = some (exo a D (some dd)) ∧ H dd = some (exd dd fs) ∧ ExcC X.K D ∧ PySem.W.kitOne X.K (.ref D) tv = some b ∧ Q (.bl b) H) := by
  intro pins s σ H xs us Q I rv h
  obtain ⟨a, D, dd, fs, t, tv, b, rfl, ht, ha, hd, hC, hk, q⟩ := h
  match us, rv with
  | [_, u], .cons rx (.cons rt .nil) =>
    cases rx
    cases ht _ rt
    obtain ⟨ox, od, mA, J, _⟩ := exo_inst I ha hd
    exact PySem.W.kia_one (kitx_dictE hC) I.kIn J hk (fun z => nomatch z) fun tk => ⟨.bl b, H, I.tok tk, rfl, q⟩
/-- e.line -/
theorem pe_line {X : L2.Cx} {e : Expr} {te : TE} {f : Str} {C : Addr} {pos : Pos} (T : XfC X.K C) (hno : PySem.W.findIn X.K (.ref C) f = some none) (he : PE X e te) (hb : attributeBase e f X.env (eval e X.env) = eval e X.env) :
    PE X (.Attribute e f pos) (fun σ H Q => te σ H fun x H1 => ∃ a dd fs y, x = .ref a ∧ H1 a = some (exo a C (some dd)) ∧ H1 dd = some (exd dd fs) ∧ fs.lookup f = some y ∧ Q y H1) := by
  refine ⟨fun pins s σ H Q I h => ?_⟩
  refine attr_of hb (thn (he.run pins s σ H _ I h) fun u s1 ⟨x, H1, I1, rx, a, dd, fs, y, ex, ea, ed, l, q⟩ => ?_)
  subst ex
  obtain rfl : u = Value.ref a := rx
  obtain ⟨ox, od, mA, J, hns, rel, hod⟩ := exo_inst I1 ea ed
  obtain ⟨od', ho', hl⟩ := lookIn_ns hns
  obtain rfl : od' = od := by rw [hod] at ho'; exact (Option.some.inj ho').symm
  obtain ⟨u, hu, ru⟩ := RelO.some_of (v := y) (o := mA f) (by rw [← l]; exact rel f)
  exact HandSPX.exc_get I1.kIn J T.ga T.gg T.exC (PySem.W.findObj_own T.hdC hno rfl (by rw [hl, hu])) (handed_of ru) ⟨y, H1, I1.tok _, ru, q⟩
end FT
end

section
set_option Elab.async false
set_option linter.all false
set_option maxRecDepth 100000
set_option autoImplicit false
/-! FT.Match: own syntax against the model's syntax. -/
namespace FT
open PySem L2 LamX PyProof.Rows

/-- a block's names: the def's slots, the block's scope, the scope that tells what it stores -/
structure Mc where
  N : List Str
  sc : Scope
  rs : Scope
  /-- lambdas may stand here -/
  lm : Bool := false

def isVis : Option NameKind → Bool
  | some .local | some .cell | some .free => true
  | _ => false
def isGlob : Option NameKind → Bool
  | some .globalImplicit => true
  | _ => false
def visB (M : Mc) (x : Str) : Bool := isVis (M.sc.names.lookup x)
def glB (M : Mc) (x : Str) : Bool := isGlob (M.sc.names.lookup x)
def isLoc : Option NameKind → Option NameKind → Bool
  | some .local, _ => true
  | some .cell, some .cell => true
  | _, _ => false
/-- may be stored into -/
def locB (M : Mc) (x : Str) : Bool := isLoc (M.sc.names.lookup x) (M.rs.names.lookup x)
def okName (x : Str) : Bool := !(x == ("__debug__" : Str)) && !(x == ("__classdict__" : Str)) && !(x == ("__name__" : Str))
def plainE : Expr → Bool
  | .Starred .. | .Set .. | .Slice .. => false
  | _ => true
/-- no super() -/
def baseE : Expr → Bool
  | .Call (.Name _ _) [] [] _ => false
  | _ => true
/-- tested by its value -/
def tstE : Expr → Bool
  | .UnaryOp .Not _ _ | .BoolOp .. | .IfExp .. | .Compare .. => false
  | _ => true
/-- no comprehension -/
def noComp : Expr → Bool
  | .ListComp .. | .SetComp .. | .DictComp .. => false
  | _ => true

def blkB (N : List Str) (sc scope : Scope) (own : List (Str × Nat)) : Bool :=
  (scope.kind == .function) && scope.names.all (fun y => scope.names.lookup y.1 == some y.2) && own.all (fun p => N[p.2]? == some p.1) &&
  scope.names.all (fun y => !(y.2 == .free) || sc.names.lookup y.1 == some .cell || sc.names.lookup y.1 == some .free) &&
  scope.names.all (fun y => !(y.2 == .local || y.2 == .cell) || (own.map (·.1)).contains y.1 || !(N.contains y.1))
def ownOf (N : List Str) (own : List Nat) : List (Str × Nat) := own.map fun i => (N.getD i "", i)
def inner (M : Mc) (scope : Scope) : Mc := ⟨M.N, relS scope M.sc, scope, M.lm⟩
def lamM (M : Mc) (scope : Scope) : Mc := ⟨M.N, scope, scope, false⟩
def noArgs : Arguments → Bool
  | ⟨[], [], none, [], [], none, []⟩ => true
  | _ => false

def mtK : K → Expr → Bool
  | .non, .Constant .none _ _ => true
  | .bl b, .Constant (.bool x) _ _ => b == x
  | .int i, .Constant (.int x) _ _ => i == x
  | .str s, .Constant (.str x) _ _ => s == x
  | _, _ => false
/-- targets of a loop -/
def mtName (M : Mc) (i : Nat) (x : Expr) : Bool := match x with
  | .Name y _ => M.N[i]? == some y && locB M y
  | _ => false
def mtNames (M : Mc) : List Nat → List Expr → Bool
  | [], [] => true
  | i :: r, x :: xs => mtName M i x && mtNames M r xs
  | _, _ => false
def mtTg (M : Mc) (tg : List Nat) (one : Bool) (x : Expr) : Bool :=
  if one then (match tg with
    | [i] => mtName M i x
    | _ => false)
  else match x with
    | .Tuple xs _ _ => mtNames M tg xs
    | _ => false
def bName : B → Str
  | .len => "len" | .repr => "repr" | .all => "all" | .any => "any" | .int => "int" | .str => "str" | .tuple => "tuple" | .list => "list" | .sorted => "sorted" | .sortedSet => "sorted" | .lenSet => "len"
  | .min2 => "min" | .min1 => "min" | .max1 => "max" | .dict => "dict" | .isi _ => "isinstance"
/-- the built-ins that are called with their values alone -/
def bPlain : B → Bool
  | .len | .repr | .all | .any | .int | .tuple | .list | .min2 | .sorted => true
  | _ => false
def mName : M → Str
  | .count => "count" | .index => "index" | .append => "append" | .popAt => "pop" | .extend => "extend" | .get => "get" | _ => ""
def mPlain : M → Bool
  | .count | .index | .append | .popAt | .extend | .get => true
  | _ => false
/-- keys and values of a display -/
def mtDk : List Str → List (Option Expr) → Bool
  | [], [] => true
  | k :: ks, some (.Constant (.str x) _ _) :: xs => k == x && mtDk ks xs
  | _, _ => false
def mtDv : List K → List Expr → Bool
  | [], [] => true
  | k :: ks, x :: xs => mtK k x && mtDv ks xs
  | _, _ => false

mutual
def mtE (M : Mc) : E → Expr → Bool
  | .var i, x => match x with
    | .Name y _ => M.N[i]? == some y && visB M y && okName y
    | _ => false
  | .glob g, x => match x with
    | .Name y _ => g == y && glB M y && okName y
    | _ => false
  | .k c, x => mtK c x
  | .tup es, x => match x with
    | .Tuple xs _ _ => mtEs M es xs
    | _ => false
  | .lst _ es, x => match x with
    | .List xs _ => mtEs M es xs
    | _ => false
  | .dct _ ks cs, x => match x with
    | .Dict xs ys _ => mtDk ks xs && mtDv cs ys
    | _ => false
  | .comp _ elt tg one it ifs own, x => match x with
    | .ListComp y [⟨t, i, fs, 0⟩] scope _ => blkB M.N M.sc scope (ownOf M.N own) && tg.all (own.contains ·) && mtTg (inner M scope) tg one t && mtI M it t i && plainE i && mtIfs (inner M scope) ifs fs && mtE (inner M scope) elt y
    | _ => false
  | .comp2 _ elt tg one it tg2 one2 it2 own own2, x => match x with
    | .ListComp y [⟨t, i, [], 0⟩, ⟨t2, i2, [], 0⟩] scope _ => blkB M.N M.sc scope (ownOf M.N own) && tg.all (own.contains ·) && own2.all (own.contains ·) && tg2.all (own2.contains ·) && mtTg (inner M scope) tg one t && mtTg (inner M scope) tg2 one2 t2 &&
        mtI M it t i && plainE i && mtI (inner M scope) it2 t2 i2 && plainE i2 && mtE (inner M scope) elt y
    | _ => false
  | .bin _ op a b, x => match x with
    | .BinOp y o z _ => op == o && mtE M a y && mtE M b z
    | _ => false
  | .rep _ es b, x => match x with
    | .BinOp (.List xs _) .Mult z _ => mtEs M es xs && mtE M b z
    | _ => false
  | .neg a, x => match x with
    | .UnaryOp .USub y _ => mtE M a y
    | _ => false
  | .not a, x => match x with
    | .UnaryOp .Not y _ => mtE M a y
    | _ => false
  | .and es, x => match x with
    | .BoolOp .And xs _ => mtEs M es xs
    | _ => false
  | .or es, x => match x with
    | .BoolOp .Or xs _ => mtEs M es xs
    | _ => false
  | .cmp op a b, x => match x with
    | .Compare y [o] [z] _ => op == o && plainE z && mtE M a y && mtE M b z
    | _ => false
  | .cmp2 o1 o2 a b c, x => match x with
    | .Compare y [p1, p2] [z, u] _ => o1 == p1 && o2 == p2 && plainE u && mtE M a y && mtE M b z && mtE M c u
    | _ => false
  | .ifx c a b, x => match x with
    | .IfExp y z u _ => mtE M c y && mtE M a z && mtE M b u
    | _ => false
  | .sub a i, x => match x with
    | .Subscript y z _ => plainE z && mtE M a y && mtE M i z
    | _ => false
  | .gidx g i, x => match x with
    | .Call (.Attribute (.Name y _) m ap) [z] [] p => g == y && glB M y && okName y && m == ("index" : Str) && ap.endLine == p.line && plainE z && mtE M i z
    | _ => false
  | .slice _ a lo hi, x => match x with
    | .Subscript y (.Slice l h none _) _ => mtE M a y && mtO M lo l && mtO M hi h
    | _ => false
  | .rev _ a, x => match x with
    | .Subscript y (.Slice none none (some (.UnaryOp .USub (.Constant (.int 1) _ _) _)) _) _ => mtE M a y
    | _ => false
  | .call f es, x => match x with
    | .Call (.Name y _) (z :: zs) [] _ => f == y && glB M y && okName y && (z :: zs).all plainE && mtEs M es (z :: zs)
    | _ => false
  | .callB b _ es, x => match x with
    | .Call (.Name y _) (z :: zs) [] _ => bName b == y && glB M y && (z :: zs).all plainE && (match b with
      | .isi t => (match es, zs with
        | .cons e .nil, [.Name u _] => (tyName t : Str) == u && glB M u && decide (t < 6) && mtE M e z
        | _, _ => false)
      | .sortedSet => (match es, z, zs with
        | .cons e .nil, .Call (.Name u _) [a] [] _, [] => u == ("set" : Str) && glB M u && plainE a && mtE M e a
        | _, _, _ => false)
      | .lenSet => (match es, z, zs with
        | .cons e .nil, .Call (.Name u _) [a] [] _, [] => u == ("set" : Str) && glB M u && plainE a && mtE M e a
        | _, _, _ => false)
      | b => bPlain b && mtEs M es (z :: zs))
    | _ => false
  | .meth m o es, x => match x with
    | .Call (.Attribute y n ap) (z :: zs) [] p => mPlain m && mName m == n && ap.endLine == p.line && baseE y && (z :: zs).all plainE && decide ((z :: zs).length < 20) && mtE M o y && mtEs M es (z :: zs)
    | _ => false
  | .isE a u, x => match x with
    | .Call (.Name y _) [z, .Name v _] [] _ => ("isinstance" : Str) == y && glB M y && plainE z && u == v && glB M v && okName v && mtE M a z
    | _ => false
  | .isV a, x => match x with
    | .Call (.Name y _) [z, .Name v _] [] _ => ("isinstance" : Str) == y && glB M y && plainE z && ("ValueError" : Str) == v && glB M v && mtE M a z
    | _ => false
  | .new u es, x => match es, x with
    | .cons e .nil, .Call (.Name y _) [z] [] _ => u == y && glB M y && okName y && plainE z && mtE M e z
    | _, _ => false
  | .newK u f e, x => match x with
    | .Call (.Name y _) [] [⟨some n, z, _⟩] _ => u == y && glB M y && okName y && f == n && mtE M e z
    | _ => false
  | .fld e f, x => match x with
    | .Attribute y n _ => f == n && baseE y && mtE M e y
    | _ => false
  | .callL f b, x => match x with
    | .Call (.Name y _) [.Lambda ps body scope _] [] _ => f == y && M.lm && glB M y && okName y && noArgs ps && LamX.lamSB M.sc scope && mtE (lamM M scope) b body
    | _ => false
  | _, _ => false
def mtEs (M : Mc) : Es → List Expr → Bool
  | .nil, xs => xs.isEmpty
  | .cons e r, xs => match xs with
    | y :: ys => plainE y && mtE M e y && mtEs M r ys
    | [] => false
  | .star e r, xs => match xs with
    | .Starred y _ :: ys => mtE M e y && mtEs M r ys
    | _ => false
def mtIfs (M : Mc) : Es → List Expr → Bool
  | .nil, xs => xs.isEmpty
  | .cons e r, xs => match r, xs with
    | .nil, [y] => mtE M e y
    | _, _ => false
  | .star _ _, _ => false
def mtO (M : Mc) : O → Option Expr → Bool
  | .non, x => x.isNone
  | .som e, x => match x with
    | some y => mtE M e y
    | none => false
def mtI (M : Mc) : I → Expr → Expr → Bool
  | .seq e, _, x => mtE M e x
  | .range e, _, x => match x with
    | .Call (.Name y _) [z] [] _ => y == ("range" : Str) && glB M y && plainE z && mtE M e z
    | _ => false
  | _, _, _ => false
end

/-- no comprehension of two loops -/
def oneGen : Expr → Bool
  | .ListComp _ gs _ _ => gs.length == 1
  | _ => true
def noTup : Expr → Bool
  | .Tuple .. | .List .. => false
  | _ => true
def isLocName (sc : Scope) : Expr → Bool
  | .Name y _ => sc.names.lookup y == some .local
  | _ => false
/-- x, y = a, b, stored from the right -/
def swOk (sc : Scope) : List Expr → List Expr → Bool
  | [.Name x px, .Name y py], [a, b] => sc.names.lookup x == some .local && sc.names.lookup y == some .local && !(x == y) && py.line == px.line && plainE a && plainE b &&
      !([a, b].all (foldedForSure 8)) && !([a, b].all (constantsAlone 8))
  | [.Name x px, .Name y py, .Name z pz], [a, b, e] => sc.names.lookup x == some .local && sc.names.lookup y == some .local && sc.names.lookup z == some .local && !(x == y) && !(x == z) && !(y == z) && py.line == px.line && pz.line == px.line && plainE a && plainE b && plainE e &&
      !([a, b, e].all (foldedForSure 8)) && !([a, b, e].all (constantsAlone 8))
  | _, _ => false
def noSw (sc : Scope) (xs : List Expr) : Bool := !(xs.all (isLocName sc)) || !(xs.length == 2 || xs.length == 3)
/-- y = [..] is stored at once -/
def swB (sc : Scope) (t v : Expr) : Bool := match v, t with
  | .ListComp _ _ scope p, .Name y py => sc.names.lookup y == some .local && py.line == p.line && !(scope.names.any fun (n, k) => n == y && (k == .local || k == .cell))
  | _, _ => false
mutual
def mtT (M : Mc) : T → Expr → Bool
  | .var i, x => mtName M i x
  | .sub o i, x => match x with
    | .Subscript y z _ => plainE z && mtE M o y && mtE M i z
    | _ => false
  | .fld _ _, _ => false
  | .tup ts, x => match x with
    | .Tuple xs _ _ => mtTs M ts xs
    | _ => false
def mtTs (M : Mc) : Ts → List Expr → Bool
  | .nil, xs => xs.isEmpty
  | .cons t r, xs => match xs with
    | y :: ys => plainE y && mtT M t y && mtTs M r ys
    | [] => false
end
mutual
def mtSt (M : Mc) : St → Stmt → Bool
  | .asg t e, x => match x with
    | .Assign [y] v _ => plainE y && (noTup y || noTup v) && mtT M t y && mtE M e v && oneGen v
    | _ => false
  | .par ts es, x => match x with
    | .Assign [.Tuple xs _ _] (.Tuple ys _ _) _ => mtTs M ts xs && mtEs M es ys && (swOk M.sc xs ys || noSw M.sc xs)
    | _ => false
  | .aug o i e, x => match x with
    | .AugAssign (.Subscript y z _) .Add v _ => plainE z && mtE M o y && mtE M i z && mtE M e v
    | _ => false
  | .expr e, x => match x with
    | .Expr v _ => noComp v && mtE M e v
    | _ => false
  | .ife e a b, x => match x with
    | .If y p q _ => mtE M e y && mtSs M a p && mtSs M b q
    | _ => false
  | .forr tg one it body, x => match x with
    | .For t i b [] _ => mtTg M tg one t && plainE i && mtI M it t i && mtSs M body b
    | _ => false
  | .whl e body, x => match x with
    | .While y b [] _ => mtE M e y && mtSs M body b
    | _ => false
  | .ret e, x => match x with
    | .Return (some v) _ => mtE M e v
    | _ => false
  | .retN, x => match x with
    | .Return none _ => true
    | _ => false
  | .raise y es, x => match x with
    | .Raise (some (.Call (.Name z _) [.Constant (.str m) _ _] [] _)) none _ => y == z && glB M y && okName y && (match es with
      | .cons (.k (.str m')) .nil => m == m'
      | _ => false)
    | _ => false
  | .tryC _ _ _, _ => false
  | .mtch _ _, _ => false
  | .pass, x => match x with
    | .Pass _ => true
    | _ => false
  | .brk, x => match x with
    | .Break _ => true
    | _ => false
def mtSs (M : Mc) : Ss → List Stmt → Bool
  | .nil, xs => xs.isEmpty
  | .cons s r, xs => match xs with
    | y :: ys => mtSt M s y && mtSs M r ys
    | [] => false
  | .frz _ r, xs => mtSs M r xs
end

/-! ### what the shapes give -/
section
variable {env : PySem.Env} {e : Expr} {es : List Expr}
theorem star_plain (h : plainE e = true) : starEach (e :: es) env = (false, eval e env) :: starEach es env := by
  cases e <;> first | rfl | cases h
theorem starAll_plain {pos : Pos} : ∀ {es : List Expr}, es.all plainE = true → (backTo pos (starEach es env)).any (·.1) = false
  | [], _ => rfl
  | e :: es, h => by
    simp only [List.all_cons, Bool.and_eq_true] at h
    rw [star_plain h.1]
    have := starAll_plain (pos := pos) h.2
    simp only [backTo, List.map_cons, List.any_cons, Bool.or_eq_false_iff] at this ⊢
    exact ⟨by simp, this⟩
theorem starAll_plain2 {pos : Pos} : ∀ {es : List Expr}, es.all plainE = true → (backTo pos (starEach es env)).all (fun x => !x.1) = true
  | [], _ => rfl
  | e :: es, h => by
    simp only [List.all_cons, Bool.and_eq_true] at h
    rw [star_plain h.1]
    have := starAll_plain2 (pos := pos) h.2
    simp only [backTo, List.map_cons, List.all_cons, Bool.and_eq_true] at this ⊢
    exact ⟨rfl, this⟩
theorem tst_plain (h : tstE e = true) (whole : Sem Value) : isTrue e env whole = (do let v ← whole; standAt e.pos; holding [v] (truthy v)) := by
  cases e with
  | UnaryOp op _ _ => cases op <;> first | rfl | cases h
  | _ => first | rfl | cases h
theorem ix_plain (h : plainE e = true) : PlainIx e := fun o i => by
  cases e <;> first | rfl | cases h
theorem base_plain {n : Str} (h : baseE e = true) (w : Sem Value) : attributeBase e n env w = w := by
  cases e with
  | Call f args kws pos =>
    cases f with
    | Name id p =>
      cases args with
      | nil => cases kws with
        | nil => cases h
        | cons _ _ => rfl
      | cons _ _ => rfl
    | _ => rfl
  | _ => rfl
theorem folded_plain (h : plainE e = true) (x : Value) : foldedSetIterable e env x = pure x := by
  cases e <;> first | rfl | cases h
theorem mark_plain {op : CmpOp} (h : plainE e = true) : behindInMarks op e = false := by
  cases e <;> first | rfl | cases h
theorem marks_plain {o1 o2 : CmpOp} {a : Expr} (h : plainE e = true) : lastMarks [o1, o2] [a, e] = false := by
  show behindInMarks o2 e = false
  exact mark_plain h
theorem swaps_plain {t : Option Expr} {n : Nat} (h : noComp e = true) : swapsWith e t n env = pure false := by
  cases e <;> first | rfl | cases h
end
section
variable {M : Mc} {x : Str}
theorem vis_of (h : visB M x = true) : Vis M.sc x := by
  unfold visB isVis at h
  split at h <;> rename_i e
  · exact .inl e
  · exact .inr (.inl e)
  · exact .inr (.inr e)
  · cases h
theorem glob_of (h : glB M x = true) : M.sc.names.lookup x = some .globalImplicit := by
  unfold glB isGlob at h
  split at h <;> rename_i e
  · exact e
  · cases h
theorem loc_of (h : locB M x = true) : M.sc.names.lookup x = some .local ∨ (M.sc.names.lookup x = some .cell ∧ M.rs.names.lookup x = some .cell) := by
  unfold locB isLoc at h
  split at h
  · rename_i e; exact .inl e
  · rename_i e1 e2; exact .inr ⟨e1, e2⟩
  · cases h
theorem okName_of (h : okName x = true) : (x == ("__debug__" : Str)) = false ∧ (x == ("__classdict__" : Str)) = false ∧ x ≠ "__name__" := by
  unfold okName at h
  simp only [Bool.and_eq_true, Bool.not_eq_true'] at h
  refine ⟨h.1.1, h.1.2, fun z => ?_⟩
  rw [z] at h
  simp at h
theorem blk_of {N : List Str} {sc scope : Scope} {own : List (Str × Nat)} (h : blkB N sc scope own = true) : BlkOk N sc scope own := by
  unfold blkB at h
  simp only [Bool.and_eq_true, List.all_eq_true, beq_iff_eq, Bool.or_eq_true, Bool.not_eq_true', beq_eq_false_iff_ne, ne_eq, List.contains_iff_mem] at h
  obtain ⟨⟨⟨⟨h1, h2⟩, h3⟩, h4⟩, h5⟩ := h
  refine ⟨h1, h2, h3, fun y hy hf => ?_, fun y hy hf => ?_⟩
  · rcases h4 y hy with (h | h) | h
    · exact absurd hf h
    · exact .inl h
    · exact .inr h
  · rcases h5 y hy with (h | h) | h
    · exfalso
      rcases hf with hf | hf <;> simp [hf] at h
    · exact .inl h
    · refine .inr fun hm => ?_
      have : N.contains y.1 = true := List.contains_iff_mem.mpr hm
      rw [this] at h; cases h
end
section
variable {env : PySem.Env} {sc : Scope}
theorem noStar {xs : List Expr} (h : xs.all plainE = true) : ¬ (xs.any fun | .Starred .. => true | _ => false) = true := by
  intro hh
  obtain ⟨z, hz, hs⟩ := List.any_eq_true.mp hh
  have hp := List.all_eq_true.mp h z hz
  cases z <;> first | (cases hs; done) | (cases hp; done)
theorem blk_fn (hsc : env.scope = sc) (hk : sc.kind = .function) : env.blockKind = .function := by
  unfold Env.blockKind; rw [hsc, hk]; rfl
theorem sw_two {x y : Str} {px py p1 p2 : Pos} {k1 k2 : Nat} {a b : Expr} (hsc : env.scope = sc) (hk : sc.kind = .function) (h : swOk sc [.Name x px, .Name y py] [a, b] = true) :
    sc.names.lookup x = some .local ∧ sc.names.lookup y = some .local ∧ x ≠ y ∧ plainE a = true ∧ plainE b = true ∧ swappedStores [.Tuple [.Name x px, .Name y py] k1 p1] (.Tuple [a, b] k2 p2) env = pure (some [x, y]) := by
  simp only [swOk, Bool.and_eq_true, beq_iff_eq, Bool.not_eq_true', beq_eq_false_iff_ne, ne_eq] at h
  obtain ⟨⟨⟨⟨⟨⟨⟨h1, h2⟩, h3⟩, h4⟩, h5⟩, h6⟩, h7⟩, h8⟩ := h
  refine ⟨h1, h2, h3, h5, h6, ?_⟩
  have e1 : env.kindOf x = some .local := by unfold Env.kindOf; rw [hsc]; exact h1
  have e2 : env.kindOf y = some .local := by unfold Env.kindOf; rw [hsc]; exact h2
  have eb := blk_fn hsc hk
  have hp : [a, b].all plainE = true := by simp [h5, h6]
  have d1 : [x, y].eraseDups.length = 2 := by
    have : ¬ y = x := fun z => h3 z.symm
    simp [List.eraseDups_cons, this]
  unfold swappedStores
  dsimp only
  refine (if_neg (by simp [eb])).trans ((if_neg ?_).trans ?_)
  · exact noStar hp
  simp only [Expr.pos, List.filterMap_cons, List.filterMap_nil, List.head?_cons, Option.map_some, Option.getD_some, e1, e2, h4, beq_self_eq_true, Bool.and_self, if_true, d1, h7, h8]
  simp
theorem sw_three {x y z : Str} {px py pz p1 p2 : Pos} {k1 k2 : Nat} {a b e : Expr} (hsc : env.scope = sc) (hk : sc.kind = .function) (h : swOk sc [.Name x px, .Name y py, .Name z pz] [a, b, e] = true) :
    sc.names.lookup x = some .local ∧ sc.names.lookup y = some .local ∧ sc.names.lookup z = some .local ∧ x ≠ y ∧ x ≠ z ∧ y ≠ z ∧ swappedStores [.Tuple [.Name x px, .Name y py, .Name z pz] k1 p1] (.Tuple [a, b, e] k2 p2) env = pure (some [x, y, z]) := by
  simp only [swOk, Bool.and_eq_true, beq_iff_eq, Bool.not_eq_true', beq_eq_false_iff_ne, ne_eq] at h
  obtain ⟨⟨⟨⟨⟨⟨⟨⟨⟨⟨⟨⟨h1, h2⟩, h2'⟩, h3⟩, h3'⟩, h3''⟩, h4⟩, h4'⟩, h5⟩, h6⟩, h6'⟩, h7⟩, h8⟩ := h
  refine ⟨h1, h2, h2', h3, h3', h3'', ?_⟩
  have e1 : env.kindOf x = some .local := by unfold Env.kindOf; rw [hsc]; exact h1
  have e2 : env.kindOf y = some .local := by unfold Env.kindOf; rw [hsc]; exact h2
  have e3 : env.kindOf z = some .local := by unfold Env.kindOf; rw [hsc]; exact h2'
  have eb := blk_fn hsc hk
  have hp : [a, b, e].all plainE = true := by simp [h5, h6, h6']
  have d1 : [x, y, z].eraseDups.length = 3 := by
    have n1 : ¬ y = x := fun z => h3 z.symm
    have n2 : ¬ z = x := fun z => h3' z.symm
    have n3 : ¬ z = y := fun z => h3'' z.symm
    simp [List.eraseDups_cons, n1, n2, n3]
  unfold swappedStores
  dsimp only
  refine (if_neg (by simp [eb])).trans ((if_neg ?_).trans ?_)
  · exact noStar hp
  simp only [Expr.pos, List.filterMap_cons, List.filterMap_nil, List.head?_cons, Option.map_some, Option.getD_some, e1, e2, e3, h4, h4', beq_self_eq_true, Bool.and_self, if_true, d1, h7, h8]
  simp
theorem sw_no {xs ys : List Expr} {k1 k2 : Nat} {p1 p2 : Pos} (hsc : env.scope = sc) (h : noSw sc xs = true) : swappedStores [.Tuple xs k1 p1] (.Tuple ys k2 p2) env = pure none := by
  have key : ∀ (f : Expr → Option Str), (∀ e, isLocName sc e = false → f e = none) → xs.all (isLocName sc) = false → (xs.filterMap f).length ≠ xs.length := fun f hf ha hl => by
    have h0 : ∀ l : List Expr, (l.filterMap f).length ≤ l.length := fun l => List.length_filterMap_le f l
    have : ∀ l : List Expr, l.all (isLocName sc) = false → (l.filterMap f).length < l.length := by
      intro l
      induction l with
      | nil => intro h; simp at h
      | cons e l ih =>
        intro h
        rw [List.all_cons, Bool.and_eq_false_iff] at h
        rw [List.filterMap_cons]
        rcases h with h | h
        · rw [hf e h]
          have := h0 l
          simp only [List.length_cons]; omega
        · have := ih h
          split <;> simp only [List.length_cons] <;> omega
    have := this xs ha
    omega
  unfold swappedStores
  dsimp only
  unfold noSw at h
  rw [Bool.or_eq_true] at h
  split
  · rfl
  · split
    · rfl
    · rename_i h1 h2
      rcases h with h | h
      · refine (if_pos ?_)
        rw [Bool.or_eq_true]
        refine .inl ?_
        rw [bne_iff_ne]
        refine key _ (fun e he => ?_) (by simpa using h)
        cases e with
        | Name y p =>
          simp only [isLocName, beq_eq_false_iff_ne, ne_eq] at he
          have : ¬ (env.kindOf y == some .local) = true := by
            unfold Env.kindOf; rw [hsc]; simpa using he
          simp [this]
        | _ => rfl
      · exfalso
        simp only [Bool.not_eq_true', Bool.or_eq_false_iff, beq_eq_false_iff_ne, ne_eq] at h
        apply h1
        simp [h.1, h.2]
theorem sw_one {t v : Expr} (h : (noTup t || noTup v) = true) : swappedStores [t] v env = pure none := by
  cases t <;> first
    | rfl
    | (cases v <;> first | rfl | cases h)
theorem swaps_yes {y : Expr} {gs : List Comprehension} {scope : Scope} {p py : Pos} {x : Str} {n : Nat} (hsc : env.scope = sc) (hk : sc.kind = .function) (h : swB sc (.Name x py) (.ListComp y gs scope p) = true) : sc.names.lookup x = some .local ∧ swapsWith (.ListComp y gs scope p) (some (.Name x py)) n env = pure true := by
  simp only [swB, Bool.and_eq_true, beq_iff_eq] at h
  refine ⟨h.1.1, ?_⟩
  have e1 : (env.kindOf x == some .local) = true := by unfold Env.kindOf; rw [hsc, h.1.1]; rfl
  have e2 : (env.blockKind == .function) = true := by rw [blk_fn hsc hk]; rfl
  show pure (env.blockKind == .function && env.kindOf x == some .local && py.line == p.line && !(scope.names.any fun (n, k) => n == x && (k == .local || k == .cell))) = _
  rw [e1, e2, h.1.2, h.2]
  simp
theorem swaps_no {t v : Expr} {n : Nat} (hsc : env.scope = sc) (h : swB sc t v = false) (hv : noComp v = true ∨ ∃ y gs s p, v = .ListComp y gs s p) : swapsWith v (some t) n env = pure false := by
  rcases hv with hv | ⟨y, gs, s, p, rfl⟩
  · exact swaps_plain hv
  · cases t with
    | Name x py =>
      show pure (env.blockKind == .function && env.kindOf x == some .local && py.line == p.line && !(s.names.any fun (n, k) => n == x && (k == .local || k == .cell))) = _
      have : (env.kindOf x == some .local && py.line == p.line && !(s.names.any fun (n, k) => n == x && (k == .local || k == .cell))) = false := by
        simp only [swB] at h
        have e : env.kindOf x = sc.names.lookup x := by unfold Env.kindOf; rw [hsc]
        rw [e]; exact h
      rw [Bool.and_assoc, Bool.and_assoc, ← Bool.and_assoc (env.kindOf x == some .local), this]
      simp
    | _ => rfl
end
end FT
end

section
set_option Elab.async false
set_option linter.all false
set_option maxRecDepth 100000
set_option autoImplicit false
/-! FT.Srt: sorted, by insertion. -/
namespace FT
open PySem L2 LamX PyProof.Rows

/-! ### sorting by insertion is sorting -/
section
variable {α : Type}
def insBy (lt : α → α → Bool) (x : α) : List α → List α
  | [] => [x]
  | y :: ys => if lt y x then y :: insBy lt x ys else x :: y :: ys
def sortBy (lt : α → α → Bool) : List α → List α
  | [] => []
  | x :: xs => insBy lt x (sortBy lt xs)
theorem insBy_perm (lt : α → α → Bool) (x : α) : ∀ l : List α, (insBy lt x l).Perm (x :: l)
  | [] => .refl _
  | y :: ys => by
    unfold insBy
    split
    · exact ((insBy_perm lt x ys).cons y).trans (.swap _ _ _)
    · exact .refl _
theorem sortBy_perm (lt : α → α → Bool) : ∀ l : List α, (sortBy lt l).Perm l
  | [] => .refl _
  | x :: xs => (insBy_perm lt x _).trans ((sortBy_perm lt xs).cons x)
theorem insBy_congr {r s : α → α → Bool} {x : α} : ∀ {l : List α}, (∀ y ∈ l, r y x = s y x) → insBy r x l = insBy s x l
  | [], _ => rfl
  | y :: ys, h => by
    unfold insBy
    rw [h y (by simp), insBy_congr fun z hz => h z (by simp [hz])]
theorem sortBy_congr {r s : α → α → Bool} : ∀ {l : List α}, (∀ y ∈ l, ∀ x ∈ l, r y x = s y x) → sortBy r l = sortBy s l
  | [], _ => rfl
  | x :: xs, h => by
    simp only [sortBy]
    rw [sortBy_congr fun y hy z hz => h y (by simp [hy]) z (by simp [hz])]
    exact insBy_congr fun y hy => h y (by simp [(sortBy_perm s xs).mem_iff.mp hy]) x (by simp)
theorem insBy_sorted {le : α → α → Bool} (T : PySem.W.TotalLe le) (x : α) : ∀ {l : List α}, l.Pairwise (fun a b => le a b = true) → (insBy (fun a b => !le b a) x l).Pairwise (fun a b => le a b = true)
  | [], _ => by simp [insBy]
  | y :: ys, h => by
    obtain ⟨h1, h2⟩ := List.pairwise_cons.mp h
    unfold insBy
    split
    · rename_i hl
      have hxy : le x y = false := by simpa using hl
      have hyx : le y x = true := by
        rcases T.total y x with z | z
        · exact z
        · rw [hxy] at z; cases z
      refine List.pairwise_cons.mpr ⟨fun z hz => ?_, insBy_sorted T x h2⟩
      rcases List.mem_cons.mp ((insBy_perm _ x ys).mem_iff.mp hz) with e | hz
      · rw [e]; exact hyx
      · exact h1 z hz
    · rename_i hl
      have hxy : le x y = true := by simpa using hl
      refine List.pairwise_cons.mpr ⟨fun z hz => ?_, h⟩
      rcases List.mem_cons.mp hz with e | hz
      · rw [e]; exact hxy
      · exact T.trans _ _ _ hxy (h1 z hz)
theorem sortBy_sorted {le : α → α → Bool} (T : PySem.W.TotalLe le) : ∀ l : List α, (sortBy (fun a b => !le b a) l).Pairwise (fun a b => le a b = true)
  | [] => .nil
  | x :: xs => insBy_sorted T x (sortBy_sorted T xs)
theorem insBy_rank {le : α → α → Bool} (T : PySem.W.TotalLe le) (c x : α) : ∀ {l : List α}, (insBy (fun a b => !le b a) x l).filter (PySem.W.sameRank le c) = (x :: l).filter (PySem.W.sameRank le c)
  | [] => rfl
  | y :: ys => by
    unfold insBy
    split
    · rename_i hl
      have hxy : le x y = false := by simpa using hl
      have ih := insBy_rank T c x (l := ys)
      rw [List.filter_cons, ih]
      by_cases hy : PySem.W.sameRank le c y = true
      · have hx : PySem.W.sameRank le c x = false := by
          cases hx : PySem.W.sameRank le c x with
          | false => rfl
          | true =>
            unfold PySem.W.sameRank at hx hy
            simp only [Bool.and_eq_true] at hx hy
            have := T.trans _ _ _ hx.2 hy.1
            rw [hxy] at this; cases this
        simp [List.filter_cons, hy, hx]
      · have hy : PySem.W.sameRank le c y = false := by simpa using hy
        simp [List.filter_cons, hy]
    · rfl
theorem sortBy_rank {le : α → α → Bool} (T : PySem.W.TotalLe le) (c : α) : ∀ l : List α, (sortBy (fun a b => !le b a) l).filter (PySem.W.sameRank le c) = l.filter (PySem.W.sameRank le c)
  | [] => rfl
  | x :: xs => by
    simp only [sortBy]
    rw [insBy_rank T, List.filter_cons, sortBy_rank T c xs, ← List.filter_cons]
theorem sortBy_merge {le : α → α → Bool} (T : PySem.W.TotalLe le) (l : List α) : sortBy (fun a b => !le b a) l = l.mergeSort le := PySem.W.sort_unique T (sortBy_sorted T l) fun c => sortBy_rank T c l
end

theorem insT_by : ∀ (x : D) (l : List D), insT x l = insBy ltT x l
  | _, [] => rfl
  | x, y :: ys => by
    unfold insT insBy
    rw [insT_by x ys]
theorem sortT_by : ∀ l : List D, sortT l = sortBy ltT l
  | [] => rfl
  | x :: xs => by
    unfold sortT sortBy
    rw [sortT_by xs, insT_by]

/-! ### data in order -/
mutual
theorem alike_py : ∀ a b : D, ordT a b = true → PySem.W.alike (pyT a) (pyT b) = true
  | .bl _, .bl _, _ => by simp [pyT, PySem.W.alike]
  | .int _, .int _, _ => by simp [pyT, PySem.W.alike]
  | .str _, .str _, _ => by simp [pyT, PySem.W.alike]
  | .tup xs, .tup ys, h => by
    have := alike_pys xs ys (by simpa [ordT] using h)
    simpa [pyT, PySem.W.alike] using this
  | .lst xs, .lst ys, h => by
    have := alike_pys xs ys (by simpa [ordT] using h)
    simpa [pyT, PySem.W.alike] using this
  | .non, b, h => by cases b <;> simp [ordT] at h
  | .dct _, b, h => by cases b <;> simp [ordT] at h
  | .obj _, b, h => by cases b <;> simp [ordT] at h
  | .ins _ _, b, h => by cases b <;> simp [ordT] at h
  | .exc _ _, b, h => by cases b <;> simp [ordT] at h
  | .fn _, b, h => by cases b <;> simp [ordT] at h
  | .bl _, .non, h | .bl _, .int _, h | .bl _, .str _, h | .bl _, .tup _, h | .bl _, .lst _, h | .bl _, .dct _, h | .bl _, .obj _, h | .bl _, .ins _ _, h | .bl _, .exc _ _, h | .bl _, .fn _, h => by simp [ordT] at h
  | .int _, .non, h | .int _, .bl _, h | .int _, .str _, h | .int _, .tup _, h | .int _, .lst _, h | .int _, .dct _, h | .int _, .obj _, h | .int _, .ins _ _, h | .int _, .exc _ _, h | .int _, .fn _, h => by simp [ordT] at h
  | .str _, .non, h | .str _, .bl _, h | .str _, .int _, h | .str _, .tup _, h | .str _, .lst _, h | .str _, .dct _, h | .str _, .obj _, h | .str _, .ins _ _, h | .str _, .exc _ _, h | .str _, .fn _, h => by simp [ordT] at h
  | .tup _, .non, h | .tup _, .bl _, h | .tup _, .int _, h | .tup _, .str _, h | .tup _, .lst _, h | .tup _, .dct _, h | .tup _, .obj _, h | .tup _, .ins _ _, h | .tup _, .exc _ _, h | .tup _, .fn _, h => by simp [ordT] at h
  | .lst _, .non, h | .lst _, .bl _, h | .lst _, .int _, h | .lst _, .str _, h | .lst _, .tup _, h | .lst _, .dct _, h | .lst _, .obj _, h | .lst _, .ins _ _, h | .lst _, .exc _ _, h | .lst _, .fn _, h => by simp [ordT] at h
theorem alike_pys : ∀ a b : List D, ordTs a b = true → PySem.W.alikeAll (pyTs a) (pyTs b) = true
  | x :: xs, y :: ys, h => by
    have h' : ordT x y = true ∧ ordTs xs ys = true := by simpa [ordTs] using h
    simp [pyTs, PySem.W.alikeAll, alike_py x y h'.1, alike_pys xs ys h'.2]
  | [], [], _ => by simp [pyTs, PySem.W.alikeAll]
  | [], _ :: _, _ => by simp [pyTs, PySem.W.alikeAll]
  | _ :: _, [], _ => by simp [pyTs, PySem.W.alikeAll]
end

mutual
theorem lt_py : ∀ a b : D, ordT a b = true → okT a = true → okT b = true → PySem.W.dataLt (pyT a) (pyT b) = ltT a b
  | .bl a, .bl b, _, _, _ => by
    simp only [pyT, PySem.W.dataLt_bool, ltT]
    cases a <;> cases b <;> decide
  | .int a, .int b, _, _, _ => by simp only [pyT, PySem.W.dataLt_int, ltT]
  | .str a, .str b, _, _, _ => by simp only [pyT, PySem.W.dataLt_str, ltT]
  | .tup xs, .tup ys, h, k1, k2 => by
    simp only [pyT, PySem.W.dataLt_tuple, ltT]
    exact lt_pys xs ys (by simpa [ordT] using h) (by simpa [okT] using k1) (by simpa [okT] using k2)
  | .lst xs, .lst ys, h, k1, k2 => by
    simp only [pyT, PySem.W.dataLt_list, ltT]
    exact lt_pys xs ys (by simpa [ordT] using h) (by simpa [okT] using k1) (by simpa [okT] using k2)
  | .non, b, h, _, _ => by cases b <;> simp [ordT] at h
  | .dct _, b, h, _, _ => by cases b <;> simp [ordT] at h
  | .obj _, b, h, _, _ => by cases b <;> simp [ordT] at h
  | .ins _ _, b, h, _, _ => by cases b <;> simp [ordT] at h
  | .exc _ _, b, h, _, _ => by cases b <;> simp [ordT] at h
  | .fn _, b, h, _, _ => by cases b <;> simp [ordT] at h
  | .bl _, .non, h, _, _ | .bl _, .int _, h, _, _ | .bl _, .str _, h, _, _ | .bl _, .tup _, h, _, _ | .bl _, .lst _, h, _, _ | .bl _, .dct _, h, _, _ | .bl _, .obj _, h, _, _ | .bl _, .ins _ _, h, _, _ | .bl _, .exc _ _, h, _, _ | .bl _, .fn _, h, _, _ => by simp [ordT] at h
  | .int _, .non, h, _, _ | .int _, .bl _, h, _, _ | .int _, .str _, h, _, _ | .int _, .tup _, h, _, _ | .int _, .lst _, h, _, _ | .int _, .dct _, h, _, _ | .int _, .obj _, h, _, _ | .int _, .ins _ _, h, _, _ | .int _, .exc _ _, h, _, _ | .int _, .fn _, h, _, _ => by simp [ordT] at h
  | .str _, .non, h, _, _ | .str _, .bl _, h, _, _ | .str _, .int _, h, _, _ | .str _, .tup _, h, _, _ | .str _, .lst _, h, _, _ | .str _, .dct _, h, _, _ | .str _, .obj _, h, _, _ | .str _, .ins _ _, h, _, _ | .str _, .exc _ _, h, _, _ | .str _, .fn _, h, _, _ => by simp [ordT] at h
  | .tup _, .non, h, _, _ | .tup _, .bl _, h, _, _ | .tup _, .int _, h, _, _ | .tup _, .str _, h, _, _ | .tup _, .lst _, h, _, _ | .tup _, .dct _, h, _, _ | .tup _, .obj _, h, _, _ | .tup _, .ins _ _, h, _, _ | .tup _, .exc _ _, h, _, _ | .tup _, .fn _, h, _, _ => by simp [ordT] at h
  | .lst _, .non, h, _, _ | .lst _, .bl _, h, _, _ | .lst _, .int _, h, _, _ | .lst _, .str _, h, _, _ | .lst _, .tup _, h, _, _ | .lst _, .dct _, h, _, _ | .lst _, .obj _, h, _, _ | .lst _, .ins _ _, h, _, _ | .lst _, .exc _ _, h, _, _ | .lst _, .fn _, h, _, _ => by simp [ordT] at h
theorem lt_pys : ∀ a b : List D, ordTs a b = true → okTs a = true → okTs b = true → PyProof.Rows.lexLt itemOrd (PySem.W.keyToksAll (pyTs a)) (PySem.W.keyToksAll (pyTs b)) = ltTs a b
  | x :: xs, y :: ys, h, k1, k2 => by
    have h' : ordT x y = true ∧ ordTs xs ys = true := by simpa [ordTs] using h
    have k1' : okT x = true ∧ okTs xs = true := by simpa [okTs] using k1
    have k2' : okT y = true ∧ okTs ys = true := by simpa [okTs] using k2
    simp only [pyTs, ltTs]
    rw [PySem.W.dataLt_cons (alike_py x y h'.1), eqv_py x y k1'.1 k2'.1, lt_py x y h'.1 k1'.1 k2'.1, lt_pys xs ys h'.2 k1'.2 k2'.2]
  | [], [], _, _, _ => by simp [pyTs, ltTs, PySem.W.keyToksAll, lex_cons, PyProof.Rows.lexLt, itemLt]
  | [], _ :: _, _, _, _ => by simp [pyTs, ltTs, PySem.W.keyToksAll, lex_cons, PyProof.Rows.lexLt, itemLt]
  | _ :: _, [], _, _, _ => by simp [pyTs, ltTs, PySem.W.keyToksAll, lex_cons, PyProof.Rows.lexLt, itemLt]
end
mutual
/-- data without objects read as they are -/
theorem res_id {f : Nat → D} : ∀ d : D, okT d = true → resW f d = d
  | .non, _ | .bl _, _ | .int _, _ | .str _, _ => by simp [resW]
  | .tup xs, h => by simp [resW, res_ids xs (by simpa [okT] using h)]
  | .lst xs, h => by simp [resW, res_ids xs (by simpa [okT] using h)]
  | .dct _, h | .obj _, h | .ins _ _, h | .exc _ _, h | .fn _, h => by simp [okT] at h
theorem res_ids {f : Nat → D} : ∀ ds : List D, okTs ds = true → resWs f ds = ds
  | [], _ => by simp [resWs]
  | d :: ds, h => by
    have h' : okT d = true ∧ okTs ds = true := by simpa [okTs] using h
    simp [resWs, res_id d h'.1, res_ids ds h'.2]
end
theorem resD_id {S : Store} {d : D} (h : okT d = true) : resD S d = d := by
  unfold resD resN
  exact res_id d h

section
variable {X : L2.Cx} {pins : List (Addr × Obj)} {σ : L2.St} {H : Hp} {s : Shared} {c : Cfg} {g : G} {S : Store}
theorem each_rep : ∀ {ds : List D} {vs : List V} {us : List Value}, RepAll c g ds vs → Vals vs us → PySem.W.EachIs (fun u d => ∃ v, RelV v u ∧ Rep c g d v) us ds
  | _, _, _, .nil, .nil => .nil
  | _, _, _, .cons q qs, .cons r rs => .cons ⟨_, r, q⟩ (each_rep qs rs)
theorem rep_each : ∀ {ds : List D} {us : List Value}, PySem.W.EachIs (fun u d => ∃ v, RelV v u ∧ Rep c g d v) us ds → ∃ vs, Vals vs us ∧ RepAll c g ds vs
  | _, _, .nil => ⟨[], .nil, .nil⟩
  | _, _, .cons ⟨v, r, q⟩ h => let ⟨vs, h1, h2⟩ := rep_each h; ⟨v :: vs, .cons r h1, .cons q h2⟩
theorem each_reads (I : Inv X pins σ H s) (hK : X.K = c.K) (r : RelS c g S H) : ∀ {ds : List D} {us : List Value}, PySem.W.EachIs (fun u d => ∃ v, RelV v u ∧ Rep c g d v) us ds → ds.all fitT = true → PySem.W.EachIs (fun u d => ∃ as, Reads s.heap u (pyT d) as) us ds
  | _, _, .nil, _ => .nil
  | d :: ds, _, .cons ⟨v, ru, q⟩ h, hf => by
    simp only [List.all_cons, Bool.and_eq_true] at hf
    obtain ⟨f1, l1, t1, d1⟩ := fit_lay hf.1
    have e := resD_id (S := S) f1
    obtain ⟨as, a1, _⟩ := reads_d I hK r q ru (by rw [e]; exact t1)
    rw [e] at a1
    exact .cons ⟨as, a1⟩ (each_reads I hK r h hf.2)
theorem sortable_of {ds : List D} (hf : ds.all fitT = true) (h : sortB ds = true) : PySem.W.Sortable (ds.map pyT) := by
  unfold sortB at h
  rw [Bool.or_eq_true] at h
  rcases h with h | h
  · refine .inl fun d hd => ?_
    obtain ⟨e, he, rfl⟩ := List.mem_map.mp hd
    have := List.all_eq_true.mp h e he
    split at this
    · exact ⟨_, _, by simp [pyT, pyTs]; exact ⟨rfl, rfl⟩⟩
    · cases this
  · refine .inr fun d hd => ?_
    obtain ⟨e, he, rfl⟩ := List.mem_map.mp hd
    have h1 := List.all_eq_true.mp h e he
    have h2 := (fit_lay (List.all_eq_true.mp hf e he)).1
    clear h hf he hd
    cases e <;> simp_all [pyT, okT]
theorem sort_eq {ds : List D} (h : ordAll ds = true) : ds.mergeSort (PySem.W.dataLe false pyT) = sortT ds := by
  simp only [ordAll, Bool.and_eq_true] at h
  obtain ⟨⟨h1, h2⟩, _⟩ := h
  have h1 := List.all_eq_true.mp h1
  have h2 : ∀ x ∈ ds, ∀ y ∈ ds, ordT x y = true := fun x hx y hy => List.all_eq_true.mp (List.all_eq_true.mp h2 x hx) y hy
  have T : PySem.W.TotalLe (PySem.W.dataLe (β := D) false pyT) := PySem.W.sortLe_total _ _ _
  rw [← sortBy_merge T, sortT_by]
  refine sortBy_congr fun y hy x hx => ?_
  rw [PySem.W.dataLe_eq]
  show (!(!PySem.W.dataLt (pyT y) (pyT x))) = _
  rw [Bool.not_not]
  exact lt_py y x (h2 y hy x hx) (fit_lay (h1 y hy)).1 (fit_lay (h1 x hx)).1
theorem call_sortedD (hK : X.K = c.K) (hu : X.A.units + 130 < cLine) : CallR X (.builtin "sorted") (fun xs H Q => ∃ live d x S g, xs = [x] ∧ RelS c g S H ∧ Rep c g d x ∧ Wants c g Q (callBD .sorted live [d] S)) := by
  intro pins s σ H xs us Q I rv h
  obtain ⟨live, d, x, S, g, rfl, r, q, w⟩ := h
  unfold callBD at w
  dsimp only at w
  split at w
  · rename_i ys hs
    split at w
    · rename_i ho
      obtain ⟨p, vs, rfl, ra, ta⟩ := rep_lst r q hs
      obtain ⟨hz, gt⟩ := w.gets r
      obtain ⟨u, rfl, ru⟩ := rv.one
      cases ru
      obtain ⟨its, rvs, hl, hzl⟩ := I.list (by rw [hK]; exact ta.sq)
      have ho' := ho
      simp only [ordAll, Bool.and_eq_true] at ho'
      obtain ⟨⟨h1, h2⟩, h3⟩ := ho'
      have hal : PySem.W.AllAlike (ys.map pyT) := fun a ha b hb => by
        obtain ⟨x, hx, rfl⟩ := List.mem_map.mp ha
        obtain ⟨y, hy, rfl⟩ := List.mem_map.mp hb
        exact alike_py x y (List.all_eq_true.mp (List.all_eq_true.mp h2 x hx) y hy)
      have e := each_rep ra rvs
      refine PySem.W.sorted_data (enc := pyT) hl.isList e (each_reads I hK r e h1) hal (sortable_of h1 h3) (by rw [ra.length]; exact hzl) (fun b hb => ?_) fun out ho1 ho2 => ?_
      · have := (fit_lay (List.all_eq_true.mp h1 b hb)).2.2.2
        omega
      · rw [sort_eq ho] at ho2
        obtain ⟨vs', r1, r2⟩ := rep_each ho2
        have hlen : vs'.length ≤ sizeLine := by rw [← r2.length]; exact hz
        obtain ⟨n, hn⟩ := sortedAll_at s.heap its out.toArray
        exact ⟨.ref _, upd H (s.heap.objs.size + 1) (.lst vs'), I.laid (t' := s.toks) (fun b o e => sortedAll_old e) (Nat.le_succ _) ⟨hlen, out, n, r1, hn⟩, rfl, gt.list r r2 _ (I.hok.fresh (Nat.le_succ _))⟩
    · exact w.elim
  · exact w.elim
end
end FT
end

section
set_option Elab.async false
set_option linter.all false
set_option maxRecDepth 100000
set_option autoImplicit false
/-! FT.SetA: sets of keys of any depth; the search. -/
namespace FT
open PySem L2 LamX PyProof.Rows PySem.SeqAt

section
variable {P : Program} {w : World}
/-! ### small questions asked of keys -/
def NoCls (P : Program) (w : World) (n : Nat) (s : Shared) (v : Value) : Prop := ∀ (A : Around) (E : Value → Shared → Prop) (Q : Bool → Shared → Prop), Q false s → wpAny (model P w) A (ofAClassStatement n v) Q E s
theorem NoCls.tup {n : Nat} {s : Shared} {b : Addr} {o : Obj} {us : Array Value} {m : Nat} (h1 : s.heap.get? b = some o) (h2 : o.cls = .type "tuple") (h3 : o.data = .seq us m) (hall : ∀ v ∈ us.toList, NoCls P w n s v) : NoCls P w (n + 1) s (.ref b) := fun A E Q fin => by
  have ty : s.TypeIs (.ref b) "tuple" := ⟨o, h1, h2⟩
  unfold ofAClassStatement
  refine wpAny_bind (wpAny_typeOf ty ?_)
  have et : (("tuple" : String) == "tuple") = true := by decide
  dsimp only
  simp only [et, if_true, Bool.not_true, Bool.false_eq_true, if_false]
  first
    | refine wpAny_bind (wpAny_seqItems h1 h3 ?_)
    | (refine wpAny_bind (wpAny_pure ?_)
       simp only [Bool.not_true, Bool.false_eq_true, if_false]
       refine wpAny_bind (wpAny_seqItems h1 h3 ?_))
  dsimp only
  refine wpAny_bind ?_
  show wpAny (model P w) A (forIn us _ _) _ E s
  rw [← Array.forIn_toList]
  refine wpAny_forIn_list _ (fun todo r s1 => s1 = s ∧ r.1 = none ∧ ∀ v ∈ todo, NoCls P w n s v) _ ?step ?last _ _ ⟨rfl, rfl, hall⟩
  case step =>
    rintro u todo r s1 ⟨rfl, hr, hs⟩
    refine wpAny_bind (hs u (.head _) A E _ ?_)
    simp only [Bool.false_eq_true, if_false]
    exact wpAny_pure ⟨rfl, rfl, fun v hv => hs v (.tail _ hv)⟩
  case last =>
    rintro ⟨r1, r2⟩ s1 ⟨rfl, hr, _⟩
    simp only at hr
    subst hr
    exact wpAny_pure fin
theorem NoCls.plain {n : Nat} {s : Shared} {v : Value} (h : v.scannable = true) : NoCls P w n s v := fun A E Q fin => by
  have e : ofAClassStatement n v = pure false := by cases n <;> cases v <;> first | rfl | cases h
  rw [e]
  exact wpAny_pure fin
mutual
theorem nocls_key : ∀ (k : NestedKey) (v : Value) (n : Nat) (s : Shared), NestedIs s.heap k v → k.depth ≤ n → NoCls P w n s v
  | .none, _, n, s, x, _ => by cases x; exact .plain rfl
  | .num i, _, n, s, x, _ => by cases x <;> exact .plain rfl
  | .text y, _, n, s, x, _ => by cases x; exact .plain rfl
  | .tup ks, _, 0, s, x, hn => by simp [NestedKey.depth] at hn
  | .tup ks, _, n + 1, s, x, hn => by
    cases x with
    | tup h1 h2 h3 h4 => exact .tup h1 h2 h3 (nocls_keys ks _ n s h4 (by simp only [NestedKey.depth] at hn; omega))
theorem nocls_keys : ∀ (ks : List NestedKey) (vs : List Value) (n : Nat) (s : Shared), NestedAll s.heap ks vs → NestedKey.depthAll ks ≤ n → ∀ v ∈ vs, NoCls P w n s v
  | [], _, n, s, x, _, v, hv => by cases x; cases hv
  | k :: ks, _, n, s, x, hn, v, hv => by
    cases x with
    | cons x1 x2 =>
      simp only [NestedKey.depthAll] at hn
      rcases List.mem_cons.mp hv with e | hv
      · rw [e]; exact nocls_key k _ n s x1 (by omega)
      · exact nocls_keys ks _ n s x2 (by omega) v hv
end
def ByVal (P : Program) (w : World) (n : Nat) (s : Shared) (v : Value) : Prop := ∀ (A : Around) (E : Value → Shared → Prop) (Q : Bool → Shared → Prop), (∀ b, Q b s) → wpAny (model P w) A (hashByValue n v) Q E s
theorem ByVal.tup {n : Nat} {s : Shared} {b : Addr} {o : Obj} {us : Array Value} {m : Nat} (h1 : s.heap.get? b = some o) (h2 : o.cls = .type "tuple") (h3 : o.data = .seq us m) (hall : ∀ v ∈ us.toList, ByVal P w n s v) : ByVal P w (n + 1) s (.ref b) := fun A E Q fin => by
  have ty : s.TypeIs (.ref b) "tuple" := ⟨o, h1, h2⟩
  unfold hashByValue
  refine wpAny_bind (wpAny_specialOf ty F.slot_tuple_hash.lookup ?_)
  refine wpAny_bind (wpAny_seqItems h1 h3 ?_)
  refine wpAny_bind ?_
  show wpAny (model P w) A (forIn us _ _) _ E s
  rw [← Array.forIn_toList]
  refine wpAny_forIn_list _ (fun todo r s1 => s1 = s ∧ r.1 = none ∧ ∀ v ∈ todo, ByVal P w n s v) _ ?step ?last _ _ ⟨rfl, rfl, hall⟩
  case step =>
    rintro u todo r s1 ⟨rfl, hr, hs⟩
    refine wpAny_bind (hs u (.head _) A E _ fun b => ?_)
    cases b
    · simp only [Bool.not_false, if_true]
      exact wpAny_pure (wpAny_pure (fin _))
    · simp only [Bool.not_true, Bool.false_eq_true, if_false]
      exact wpAny_pure ⟨rfl, rfl, fun v hv => hs v (.tail _ hv)⟩
  case last =>
    rintro ⟨r1, r2⟩ s1 ⟨rfl, hr, _⟩
    simp only at hr
    subst hr
    exact wpAny_pure (fin _)
theorem ByVal.plain {n : Nat} {s : Shared} {v : Value} (h : v.scannable = true) : ByVal P w n s v := fun A E Q fin => by
  rw [hashByValue_scannable n h]
  exact wpAny_pure (fin _)
mutual
theorem byval_key : ∀ (k : NestedKey) (v : Value) (n : Nat) (s : Shared), NestedIs s.heap k v → ByVal P w n s v
  | .none, _, n, s, x => by cases x; exact .plain rfl
  | .num i, _, n, s, x => by cases x <;> exact .plain rfl
  | .text y, _, n, s, x => by cases x; exact .plain rfl
  | .tup ks, _, 0, s, x => by
    cases x
    intro A E Q fin
    exact wpAny_pure (fin _)
  | .tup ks, _, n + 1, s, x => by
    cases x with
    | tup h1 h2 h3 h4 => exact .tup h1 h2 h3 (byval_keys ks _ n s h4)
theorem byval_keys : ∀ (ks : List NestedKey) (vs : List Value) (n : Nat) (s : Shared), NestedAll s.heap ks vs → ∀ v ∈ vs, ByVal P w n s v
  | [], _, n, s, x, v, hv => by cases x; cases hv
  | k :: ks, _, n, s, x, v, hv => by
    cases x with
    | cons x1 x2 =>
      rcases List.mem_cons.mp hv with e | hv
      · rw [e]; exact byval_key k _ n s x1
      · exact byval_keys ks _ n s x2 v hv
end
/-- a search among keys shows nothing -/
theorem unseen {A : Around} {E : Value → Shared → Prop} {s : Shared} {k : NestedKey} {b : Addr} {Q : Bool → Shared → Prop} (x : NestedIs s.heap k (.ref b)) (hd : k.depth ≤ 8) {ys : List Value}
    (hy : ∀ y ∈ ys, ∃ k' c, y = Value.ref c ∧ NestedIs s.heap k' (.ref c) ∧ k'.depth ≤ 8) (fin : Q false s) : wpAny (model P w) A (searchCouldBeSeen (.ref b) ys) Q E s := by
  unfold searchCouldBeSeen
  refine wpAny_bind ?_
  refine wpAny_forIn_list _ (fun todo r s1 => s1 = s ∧ r.1 = none ∧ ∀ y ∈ todo, ∃ k' c, y = Value.ref c ∧ NestedIs s.heap k' (.ref c) ∧ k'.depth ≤ 8) _ ?step ?last _ _ ⟨rfl, rfl, hy⟩
  case step =>
    rintro u todo r s1 ⟨rfl, hr, hs⟩
    obtain ⟨k', c, rfl, xc, hc⟩ := hs u (.head _)
    have more := fun y hy => hs y (.tail _ hy)
    dsimp only
    by_cases hv : (b == c || (carriedByValue (.ref b) && carriedByValue (.ref c))) = true
    · exact wp_if_pos hv (wpAny_pure ⟨rfl, rfl, more⟩)
    · refine wp_if_neg hv (wpAny_bind (quiet_key k _ 8 s1 x hd A E _ ?_))
      simp only [Bool.not_true, Bool.false_eq_true, if_false]
      refine wpAny_bind (quiet_key k' _ 8 s1 xc hc A E _ ?_)
      simp only [Bool.not_true, Bool.false_eq_true, if_false]
      refine wpAny_bind (nocls_key k _ 8 s1 x hd A E _ ?_)
      simp only [Bool.false_eq_true, if_false]
      refine wpAny_bind (nocls_key k' _ 8 s1 xc hc A E _ ?_)
      simp only [Bool.false_eq_true, if_false]
      exact wpAny_pure ⟨rfl, rfl, more⟩
  case last =>
    rintro ⟨r1, r2⟩ s1 ⟨rfl, hr, _⟩
    simp only at hr
    subst hr
    exact wpAny_pure fin
end

/-! ### the set -/
/-- a row: the value, and what key it is -/
abbrev Row := Value × NestedKey
abbrev rowH (w : World) (p : Row) : Int := p.2.hash w
abbrev rowE (w : World) (p : Row) : Int × Value := (p.2.hash w, p.1)
structure Bag (w : World) (sc : Bool) (h : Heap) (a : Addr) (L : List Row) (es : Array (Int × Value)) (ep : Nat) (t : SetTable) : Prop where
  ob : ∃ o, h.get? a = some o ∧ o.ExactSet ∧ o.data = .set es ep t
  rows : es.toList = L.map (rowE w)
  tab : TabOk t (L.map (rowH w))
  nd : (L.map Prod.snd).Nodup
  key : ∀ p ∈ L, NestedIs h p.2 p.1 ∧ p.2.depth ≤ 8 ∧ p.1.scannable = sc
  led : w.params.followText "set-order" = true ∨ t.led = true
  room : L.length * 5 < t.mask * 3
  few : L.length < 64
section
variable {P : Program} {w : World} {A : Around} {E : Value → Shared → Prop} {s : Shared} {h : Heap} {a : Addr} {L : List Row} {es : Array (Int × Value)} {ep : Nat} {t : SetTable} {sc : Bool}
theorem Bag.size (B : Bag w sc h a L es ep t) : es.size = L.length := by
  have := congrArg List.length B.rows
  simpa using this
theorem fits_tab {hs : List Int} (T : TabOk t hs) {n : Nat} (e : n = hs.length) (hl : hs.length ≤ t.mask) : t.fits n = true := by
  have := T.sz
  unfold SetTable.fits SetTable.fill
  rw [T.dm]
  simp
  omega
theorem Bag.fits (B : Bag w sc h a L es ep t) : t.fits es.size = true := by
  have := B.room
  exact fits_tab B.tab (by rw [B.size]; simp) (by simp; omega)
theorem Bag.get (B : Bag w sc h a L es ep t) {i : Nat} {p : Row} (e : L[i]? = some p) : es[i]? = some (rowE w p) := by
  rw [← Array.getElem?_toList, B.rows, List.getElem?_map, e]
  rfl
theorem Bag.odd (B : Bag w sc h a L es ep t) : t.gaveWay = false := by
  unfold SetTable.gaveWay
  rw [mask_odd B.tab.mok]
  decide
theorem ref_key {k : NestedKey} {v : Value} (x : NestedIs h k v) (n : v.scannable = false) : ∃ b, v = .ref b := by
  cases x <;> first | exact ⟨_, rfl⟩ | cases n
/-- the c-th step of a way -/
abbrev prb (m : Nat) (h : Int) (c : Nat) : SetTable.Probe := nth m (runAt m (SetTable.bits h % (m + 1)) (SetTable.bits h)) c
theorem prb_none (m : Nat) (h : Int) (c : Nat) : (prb m h c).dummy = none := by
  have : ∀ (n : Nat) (p : SetTable.Probe), p.dummy = none → (nth m p n).dummy = none := by
    intro n
    induction n with
    | zero => exact fun p h => h
    | succ n ih =>
      intro p hp
      refine ih (adv m p) ?_
      unfold adv
      split <;> exact hp
  exact this c _ rfl
theorem prb_add (m : Nat) (h : Int) (c q : Nat) : nth m (prb m h c) q = prb m h (c + q) := (nth_add m c _ q).symm
theorem Bag.lt (B : Bag w sc h a L es ep t) {i j : Nat} (e : t.place.toList[i]? = some j) : i < L.length := by
  have h1 : i < t.place.toList.length := (List.getElem?_eq_some_iff.mp e).1
  have h2 := B.tab.sz
  rw [List.length_map] at h2
  rw [Array.length_toList] at h1
  omega
/-- the search, from the c-th step on -/
theorem Bag.seek (B : Bag w false s.heap a L es ep t) {x : Addr} {k : NestedKey} (hx : NestedIs s.heap k (.ref x)) (hk : k.depth ≤ 8) (hu : A.units + 8 < cLine) {K : Nat} (b1 : K < 10 * SetTable.turns t.mask)
    (b2 : way t.mask (k.hash w) K ∉ t.place.toList) (b3 : ∀ c, c < K → way t.mask (k.hash w) c ∈ t.place.toList) {Q : SetFound → Shared → Prop}
    (yes : k ∈ L.map Prod.snd → Q (.there none) s) (no : k ∉ L.map Prod.snd → Q (.free (way t.mask (k.hash w) K) false) s) :
    ∀ (f c : Nat) (stand : Option SetTable.Probe), stand.getD (t.probeStart (k.hash w)) = prb t.mask (k.hash w) c → c ≤ K → K - c < f →
      (∀ (i : Nat) p, L[i]? = some p → p.2 = k → ∃ d, c ≤ d ∧ d < K ∧ t.place.toList[i]? = some (way t.mask (k.hash w) d)) →
      wpAny (model P w) A (setSearchFrom a (.ref x) (k.hash w) true f stand) Q E s := by
  intro f
  induction f with
  | zero => intro c stand _ _ hf; omega
  | succ f ih =>
    intro c stand hst hc hf hre
    obtain ⟨o, ho, hex, hd⟩ := B.ob
    rw [setSearchFrom_succ]
    refine wpAny_bind (wpAny_setState_of ho hd B.fits ?_)
    dsimp only
    refine wp_if_neg (by rw [B.odd]; decide) ?_
    try refine wpAny_bind (wpAny_pure ?_)
    have ej : ∀ q, (nth t.mask (prb t.mask (k.hash w) c) q).j = way t.mask (k.hash w) (c + q) := fun q => congrArg SetTable.Probe.j (prb_add ..)
    have eh : ∀ (i : Nat) p, L[i]? = some p → (fun i => (es[i]?.map (·.1)).getD 0) i = p.2.hash w := fun i p hp => by
      show (es[i]?.map (·.1)).getD 0 = _
      rw [B.get hp]
      rfl
    have far := go_spec t B.tab.ris B.tab.dm (fun i => (es[i]?.map (·.1)).getD 0) (k.hash w) (10 * SetTable.turns t.mask) (K - c) (prb t.mask (k.hash w) c) (prb_none ..) (by omega)
      (fun q hq => by rw [ej]; exact b3 (c + q) (by omega)) (by rw [ej, show c + (K - c) = K by omega]; exact b2)
    rcases far with ⟨q, i, hq, hi, hh, hno, hpr⟩ | ⟨hno, hpr⟩
    · have hpr' : t.probe (fun i => (es[i]?.map (·.1)).getD 0) (k.hash w) (stand.getD (t.probeStart (k.hash w))) = some (.candidate (way t.mask (k.hash w) (c + q)) i (prb t.mask (k.hash w) (c + (q + 1)))) := by
        rw [hst, ← ej, ← prb_add]
        exact hpr
      rw [hpr']
      dsimp only
      rw [ej] at hi
      have hp := List.getElem?_eq_getElem (B.lt hi)
      generalize L[i]'(B.lt hi) = p at hp
      have hmem := List.mem_of_getElem? hp
      obtain ⟨xp, dp, sp⟩ := B.key p hmem
      obtain ⟨y, ey⟩ := ref_key xp sp
      have body : wpAny (model P w) A (searchRest a (.ref x) (k.hash w) true f es t (way t.mask (k.hash w) (c + q)) i (prb t.mask (k.hash w) (c + (q + 1)))) Q E s := by
        unfold searchRest
        rw [B.get hp]
        dsimp only
        have eq := eqAt_key p.2 k A s p.1 (.ref x) xp hx (by omega)
        refine wpAny_bind (wpAny_holding (eq P w E _ ?_))
        refine wpAny_bind (wpAny_setState_of ho hd B.fits ?_)
        dsimp only
        by_cases hkk : p.2 = k
        · have e1 : NestedKey.beq p.2 k = true := by rw [hkk]; exact NestedKey.beq_self _
          refine wp_if_pos (by simp [e1]) ?_
          exact wpAny_pure (yes (List.mem_map.mpr ⟨p, hmem, hkk⟩))
        · have e1 : NestedKey.beq p.2 k = false := by
            cases e : NestedKey.beq p.2 k with
            | false => rfl
            | true => exact absurd (NestedKey.eq_of_beq _ _ e) hkk
          refine wp_if_neg (by simp [e1]) ?_
          try refine wpAny_bind (wpAny_pure ?_)
          rw [sameMem]
          dsimp only
          have hsl : t.slot (way t.mask (k.hash w) (c + q)) = .live i := slot_live B.tab.ris hi
          simp only [if_true, hsl, B.get hp, rowE, ey]
          refine wpAny_bind (wpAny_isSame_ref_self (wpAny_bind (wpAny_pure ?_)))
          simp only [if_true]
          refine wp_if_neg (by simp [e1]) ?_
          refine ih (c + (q + 1)) _ rfl (by omega) (by omega) fun i0 p0 h0 hk0 => ?_
          obtain ⟨d, a1, a2, a3⟩ := hre i0 p0 h0 hk0
          have notq : ¬ d < c + q := fun z => by
            refine hno (d - c) i0 (by omega) (by rw [ej, show c + (d - c) = d by omega]; exact a3) ?_
            exact (eh i0 p0 h0).trans (by rw [hk0])
          have ne : d ≠ c + q := fun z => by
            rw [z] at a3
            have s0 := slot_live B.tab.ris a3
            rw [hsl] at s0
            injection s0 with s0
            rw [← s0, hp] at h0
            cases h0
            exact hkk hk0
          exact ⟨d, by omega, a2, a3⟩
      by_cases hl : t.led = true
      · refine wp_if_neg (by simp [hl]) ?_
        try refine wpAny_bind (wpAny_pure ?_)
        exact body
      · refine wp_if_pos (by simp [hl]) ?_
        refine wpAny_bind (unseen hx hk (fun y hy => ?_) ?_)
        · obtain ⟨e, he, ee⟩ := List.mem_map.mp hy
          have he1 : e ∈ es ∧ e.1 = k.hash w := by simpa using he
          have he2 : e ∈ es.toList := by simpa using he1.1
          rw [B.rows] at he2
          obtain ⟨p2, hp2, e2⟩ := List.mem_map.mp he2
          obtain ⟨xq, dq, sq⟩ := B.key p2 hp2
          have ev : y = p2.1 := by rw [← ee, ← e2]
          obtain ⟨z, ez⟩ := ref_key xq sq
          rw [ez] at xq
          exact ⟨_, z, by rw [ev, ez], xq, dq⟩
        · refine wp_if_neg (by decide) ?_
          try refine wpAny_bind (wpAny_pure ?_)
          exact body
    · have hpr' : t.probe (fun i => (es[i]?.map (·.1)).getD 0) (k.hash w) (stand.getD (t.probeStart (k.hash w))) = some (.empty (way t.mask (k.hash w) K) none) := by
        have e2 : way t.mask (k.hash w) K = (nth t.mask (prb t.mask (k.hash w) c) (K - c)).j := by
          rw [ej, show c + (K - c) = K by omega]
        rw [hst, e2]
        exact hpr
      rw [hpr']
      dsimp only
      refine wpAny_pure (no fun hm => ?_)
      obtain ⟨p0, h0, hk0⟩ := List.mem_map.mp hm
      obtain ⟨i0, hi0⟩ := List.getElem?_of_mem h0
      obtain ⟨d, a1, a2, a3⟩ := hre i0 p0 hi0 hk0
      refine hno (d - c) i0 (by omega) (by rw [ej, show c + (d - c) = d by omega]; exact a3) ?_
      exact (eh i0 p0 hi0).trans (by rw [hk0])
/-- the search as adding asks for it -/
theorem Bag.search (B : Bag w false s.heap a L es ep t) {x : Addr} {k : NestedKey} (hx : NestedIs s.heap k (.ref x)) (hk : k.depth ≤ 8) (hu : A.units + 8 < cLine) {Q : SetFound → Shared → Prop}
    (yes : k ∈ L.map Prod.snd → Q (.there none) s) (no : ∀ K, k ∉ L.map Prod.snd → way t.mask (k.hash w) K ∉ t.place.toList → (∀ c, c < K → way t.mask (k.hash w) c ∈ t.place.toList) → Q (.free (way t.mask (k.hash w) K) false) s) :
    wpAny (model P w) A (setSearch a (.ref x) (k.hash w) true) Q E s := by
  have hr := B.room
  obtain ⟨K, b1, b2, b3⟩ := B.tab.first (by rw [List.length_map]; omega) (k.hash w)
  have hz : K < 100000 := by
    have : 10 * SetTable.turns t.mask ≤ 1420 := by
      unfold SetTable.turns
      rcases B.tab.mok with e | e | e <;> omega
    omega
  refine B.seek hx hk hu b1 b2 b3 yes (fun n => no K n b2 b3) 100000 0 none rfl (Nat.zero_le _) (by omega) fun i p hp hpk => ?_
  have hi : (L.map (rowH w))[i]? = some (k.hash w) := by rw [List.getElem?_map, hp, ← hpk]; rfl
  have hil : i < t.place.toList.length := by
    have h1 : i < L.length := (List.getElem?_eq_some_iff.mp hp).1
    have h2 := B.tab.sz
    rw [List.length_map] at h2
    rw [Array.length_toList]
    omega
  have hj := List.getElem?_eq_getElem hil
  obtain ⟨c, hc, e⟩ := B.tab.before b2 hi hj
  exact ⟨c, Nat.zero_le _, hc, by rw [hj, e]⟩
end
end FT
end

section
set_option Elab.async false
set_option linter.all false
set_option maxRecDepth 100000
set_option autoImplicit false
/-! FT.SetB: the scan; a row is added. -/
namespace FT
open PySem L2 LamX PyProof.Rows PySem.SeqAt

section
variable {P : Program} {w : World} {A : Around} {E : Value → Shared → Prop} {s : Shared} {h : Heap} {a : Addr} {L : List Row} {es : Array (Int × Value)} {ep : Nat} {t : SetTable} {sc : Bool}
/-! ### the scan -/
theorem beq_no {j k : NestedKey} (n : j ≠ k) : NestedKey.beq j k = false := by
  cases e : NestedKey.beq j k with
  | false => rfl
  | true => exact absurd (NestedKey.eq_of_beq _ _ e) n
theorem beq_yes {j k : NestedKey} (e : j = k) : NestedKey.beq j k = true := by rw [e]; exact NestedKey.beq_self _
theorem scan_rows {o : Obj} (ho : s.heap.get? a = some o) (hd : o.data = .set es ep t) (hf : t.fits es.size = true) {x : Value} {k : NestedKey} (hx : NestedIs s.heap k x) (hk : k.depth ≤ 8) (hu : A.units + 8 < cLine) :
    ∀ (l : List Row) (i : Nat) {Q : ScanMet → Shared → Prop}, (∀ p ∈ l, NestedIs s.heap p.2 p.1) → (k ∈ l.map Prod.snd → ∀ j, Q (.found j) s) → (k ∉ l.map Prod.snd → Q .absent s) →
      wpAny (model P w) A (setScanFrom a x (k.hash w) true (l.map (rowE w)) i) Q E s
  | [], i, Q, _, _, no => wpAny_pure (no (by simp))
  | p :: l, i, Q, hp, yes, no => by
    have rest : p.2 ≠ k → wpAny (model P w) A (setScanFrom a x (k.hash w) true (l.map (rowE w)) (i + 1)) Q E s := fun hne =>
      scan_rows ho hd hf hx hk hu l (i + 1) (fun q hq => hp q (.tail _ hq)) (fun m j => yes (by simp at m ⊢; exact .inr m) j) fun m => no (by
        simp only [List.map_cons, List.mem_cons, not_or]
        exact ⟨fun e => hne e.symm, m⟩)
    rw [List.map_cons]
    unfold setScanFrom
    by_cases hh : (p.2.hash w == k.hash w) = true
    · refine wp_if_pos hh ?_
      have eq := eqAt_key p.2 k A s p.1 x (hp p (.head _)) hx (by omega)
      refine wpAny_bind (wpAny_setEpoch_of ho hd hf ?_)
      refine wpAny_bind (eq P w E _ ?_)
      by_cases hkk : p.2 = k
      · refine wp_if_pos (by simp [beq_yes hkk]) ?_
        exact wpAny_pure (yes (by simp [hkk]) i)
      · refine wp_if_neg (by simp [beq_no hkk]) ?_
        try refine wpAny_bind (wpAny_pure ?_)
        refine wpAny_bind (wpAny_setEpoch_of ho hd hf ?_)
        refine wp_if_neg (by simp) ?_
        try refine wpAny_bind (wpAny_pure ?_)
        refine wp_if_neg (by simp [beq_no hkk]) ?_
        try refine wpAny_bind (wpAny_pure ?_)
        exact rest hkk
    · refine wp_if_neg hh ?_
      try refine wpAny_bind (wpAny_pure ?_)
      exact rest fun e => hh (by rw [e]; simp)
theorem isStr_key {v : Value} {x : Str} (hv : v.isStr x = true) {k : NestedKey} (n : NestedIs h k v) : k = .text x := by
  cases n <;> simp [Value.isStr] at hv
  rw [hv]
theorem key_isStr {v : Value} {x : Str} (n : NestedIs h (.text x) v) : v.isStr x = true := by
  cases n
  simp [Value.isStr]
theorem Bag.scan (B : Bag w sc s.heap a L es ep t) {x : Value} {k : NestedKey} (hx : NestedIs s.heap k x) (hk : k.depth ≤ 8) (hu : A.units + 8 < cLine) {Q : ScanMet → Shared → Prop}
    (yes : k ∈ L.map Prod.snd → ∀ j, Q (.found j) s) (no : k ∉ L.map Prod.snd → Q .absent s) : wpAny (model P w) A (setScan a x (k.hash w) true es) Q E s := by
  obtain ⟨o, ho, hex, hd⟩ := B.ob
  have old : wpAny (model P w) A (setScanFrom a x (k.hash w) true es.toList 0) Q E s := by
    rw [B.rows]
    exact scan_rows ho hd B.fits hx hk hu L 0 (fun p hp => (B.key p hp).1) yes no
  cases x <;> try exact old
  rename_i y tk
  cases hx
  unfold setScan
  dsimp only
  split
  · unfold setScanStrs
    cases hr : es.findIdx? (·.2.isStr y) with
    | none =>
      dsimp only
      refine wpAny_pure (no fun hm => ?_)
      obtain ⟨p, hp, e⟩ := List.mem_map.mp hm
      have h1 := Array.findIdx?_eq_none_iff.mp hr (rowE w p) (by
        have : rowE w p ∈ es.toList := by rw [B.rows]; exact List.mem_map_of_mem hp
        simpa using this)
      have xp := (B.key p hp).1
      rw [e] at xp
      rw [show (rowE w p).2 = p.1 from rfl, key_isStr xp] at h1
      cases h1
    | some j =>
      dsimp only
      obtain ⟨hj, hpj, _⟩ := Array.findIdx?_eq_some_iff_getElem.mp hr
      have e1 : es.toList[j]? = some es[j] := by simp
      rw [B.rows, List.getElem?_map] at e1
      obtain ⟨p, hp, e2⟩ := Option.map_eq_some_iff.mp e1
      rw [B.get hp]
      dsimp only
      have xp := (B.key p (List.mem_of_getElem? hp)).1
      have ek : p.2 = .text y := isStr_key (by rw [← e2] at hpj; exact hpj) xp
      have eq := eqAt_key p.2 (.text y) A s p.1 (.str y tk) xp (.text y tk) (by simp [NestedKey.depth]; omega)
      refine wpAny_bind (wpAny_setEpoch_of ho hd B.fits ?_)
      refine wpAny_bind (eq P w E _ ?_)
      refine wp_if_pos (by simp [beq_yes ek]) ?_
      exact wpAny_pure (yes (List.mem_map.mpr ⟨p, List.mem_of_getElem? hp, ek⟩) j)
  · exact old

/-! ### laid anew -/
theorem tab_plain {hs : List Int} (T : TabOk t hs) (b : Bool) : TabOk { t with plain := b } hs := ⟨T.ris, T.dm, T.sz, T.mok, T.bd, T.reach⟩
theorem filter_rows (L : List Row) : ∀ l : List Nat, (∀ i ∈ l, i < L.length) → (l.filterMap fun i => (L.map (rowE w))[i]?) = (l.filterMap fun i => L[i]?).map (rowE w) ∧ (l.filterMap fun i => L[i]?).map (rowH w) = l.map fun i => (L.map (rowH w)).getD i 0
  | [], _ => ⟨rfl, rfl⟩
  | i :: l, hl => by
    have hi := hl i (.head _)
    obtain ⟨e1, e2⟩ := filter_rows L l fun j hj => hl j (.tail _ hj)
    have g1 : (L.map (rowE w))[i]? = some (rowE w L[i]) := by rw [List.getElem?_map, List.getElem?_eq_getElem hi]; rfl
    refine ⟨?_, ?_⟩
    · rw [List.filterMap_cons_some g1, e1, List.filterMap_cons_some (List.getElem?_eq_getElem hi), List.map_cons]
    · rw [List.filterMap_cons_some (List.getElem?_eq_getElem hi), List.map_cons, e2, List.map_cons]
      congr 1
      simp [List.getD_eq_getElem?_getD, hi]
theorem relaid_rows {wanted M : Nat} (hr : es.toList = L.map (rowE w)) (hw : SetTable.sizeAbove wanted - 1 = M) (hM : MaskOk M) (hn : L.length ≤ M) :
    ∃ (t2 : SetTable) (order : Array Nat) (L2 : List Row), t.relaid (es.map (·.1)) wanted = some (t2, order) ∧ order.toList.Perm (List.range es.size) ∧ (order.filterMap (es[·]?)).toList = L2.map (rowE w) ∧ L2.Perm L ∧ TabOk t2 (L2.map (rowH w)) ∧ t2.mask = M ∧ t2.led = t.led := by
  have hz : es.size = L.length := by
    have := congrArg List.length hr
    simpa using this
  obtain ⟨t2, order, e, hp, T, em, el, _, _⟩ := relaid_ok t (hs := es.map (·.1)) hw hM (by rw [Array.size_map, hz]; exact hn)
  rw [Array.size_map] at hp
  have hl : ∀ i ∈ order.toList, i < L.length := fun i hi => by
    have := List.mem_range.mp (hp.mem_iff.mp hi)
    omega
  obtain ⟨f1, f2⟩ := filter_rows (w := w) L order.toList hl
  have hm : (es.map (·.1)).toList = L.map (rowH w) := by
    rw [Array.toList_map, hr, List.map_map]
    rfl
  have eg : (fun i => (es.map (·.1)).getD i 0) = fun i => (L.map (rowH w)).getD i 0 := funext fun i => by
    rw [← hm]
    simp [Array.getD_eq_getD_getElem?, List.getD_eq_getElem?_getD]
  refine ⟨t2, order, order.toList.filterMap fun i => L[i]?, e, hp, ?_, ?_, ?_, em, el⟩
  · rw [Array.toList_filterMap, ← f1, ← hr]
    congr 1
    funext i
    simp
  · refine (hp.filterMap _).trans ?_
    rw [hz, List.filterMap_getElem?_range_length]
  · rw [f2, ← eg]
    exact T
theorem covers {order : Array Nat} {n : Nat} (h : order.toList.Perm (List.range n)) : coversAll order n = true := by
  unfold coversAll
  exact List.isPerm_iff.mpr h
/-! ### adding -/
theorem key_same {h h' : Heap} {o : Obj} (ho : h.get? a = some o) (hd : o.data = .set es ep t) (sb : Heap.SameBut a h h') {k : NestedKey} {v : Value} (x : NestedIs h k v) : NestedIs h' k v :=
  NestedIs.at (fun b ob vs n hb hc => (sb.2 b fun e => by
    subst e
    rw [ho] at hb
    cases hb
    rw [hd] at hc
    cases hc).trans hb) k v x
theorem insert_perm {α : Type} (L : List α) (p : Nat) (x : α) : (L.take p ++ x :: L.drop p).Perm (x :: L) := by
  refine List.perm_middle.trans ?_
  rw [List.take_append_drop]
/-- behind the first store -/
structure Mid (w : World) (sc : Bool) (h : Heap) (a : Addr) (L : List Row) (x : Value) (k : NestedKey) (L1 : List Row) (es1 : Array (Int × Value)) (t1 : SetTable) : Prop where
  rows : es1.toList = L1.map (rowE w)
  tab : TabOk t1 (L1.map (rowH w))
  perm : L1.Perm ((x, k) :: L)
  mask : t1.mask = 7 ∨ t1.mask = 31 ∨ t1.mask = 127
  room : L.length * 5 < t1.mask * 3
  led : w.params.followText "set-order" = true ∨ t1.led = true
theorem Mid.len {x : Value} {k : NestedKey} {L1 : List Row} {es1 : Array (Int × Value)} {t1 : SetTable} (M : Mid w sc h a L x k L1 es1 t1) : es1.size = L.length + 1 ∧ L1.length = L.length + 1 := by
  have h1 := congrArg List.length M.rows
  have h2 := M.perm.length_eq
  simp at h1 h2
  omega
theorem Bag.mid (B : Bag w sc h a L es ep t) {x : Value} {k : NestedKey} {K : Nat} (b2 : way t.mask (k.hash w) K ∉ t.place.toList) (b3 : ∀ c, c < K → way t.mask (k.hash w) c ∈ t.place.toList) (b : Bool) :
    ∃ L1, Mid w sc h a L x k L1 (SetTable.insertAt es (SetTable.below t.place (way t.mask (k.hash w) K)) (k.hash w, x)) { (t.put (way t.mask (k.hash w) K)).1 with plain := b } := by
  obtain ⟨q1, q2, q3, q4, q5, q6, q7, q8, q9⟩ := B.tab.put b2 b3
  generalize SetTable.below t.place (way t.mask (k.hash w) K) = p at q2 q3 ⊢
  refine ⟨L.take p ++ (x, k) :: L.drop p, ?_, ?_, insert_perm L p _, ?_, ?_, ?_⟩
  · rw [SetTable.toList_insertAt, B.rows, List.map_append, List.map_cons, List.map_take, List.map_drop]
  · rw [List.map_append, List.map_cons, List.map_take, List.map_drop]
    exact tab_plain q3 b
  · show (t.put (way t.mask (k.hash w) K)).1.mask = 7 ∨ _
    rw [q4]
    exact B.tab.mok
  · show L.length * 5 < (t.put (way t.mask (k.hash w) K)).1.mask * 3
    rw [q4]
    exact B.room
  · show _ ∨ (t.put (way t.mask (k.hash w) K)).1.led = true
    rw [q5]
    exact B.led
/-- what is wanted of a set with one row more -/
def More (w : World) (sc : Bool) (h : Heap) (a : Addr) (L : List Row) (x : Value) (k : NestedKey) (G : Heap → Prop) : Prop :=
  ∀ h' L' es' ep' t', Heap.SameBut a h h' → Bag w sc h' a L' es' ep' t' → L'.Perm ((x, k) :: L) → G h'
theorem bag_of {o : Obj} {x : Value} {k : NestedKey} {L1 L2 : List Row} {es1 es2 : Array (Int × Value)} {t1 t2 : SetTable} {h' : Heap} {ep2 : Nat} (B : Bag w sc h a L es ep t) (hx : NestedIs h k x) (hk : k.depth ≤ 8) (hs : x.scannable = sc) (hm : k ∉ L.map Prod.snd) (hfew : L.length + 1 < 64)
    (ho' : h'.get? a = some o) (hex : o.ExactSet) (hd' : o.data = .set es2 ep2 t2) (sb : Heap.SameBut a h h') (rows : es2.toList = L2.map (rowE w)) (tab : TabOk t2 (L2.map (rowH w))) (pm : L2.Perm ((x, k) :: L)) (led : w.params.followText "set-order" = true ∨ t2.led = true) (room : (L.length + 1) * 5 < t2.mask * 3) :
    Bag w sc h' a L2 es2 ep2 t2 := by
  obtain ⟨o0, ho, _, hd⟩ := B.ob
  have hl : L2.length = L.length + 1 := by rw [pm.length_eq]; rfl
  refine ⟨⟨o, ho', hex, hd'⟩, rows, tab, ?_, fun p hp => ?_, led, by rw [hl]; exact room, by rw [hl]; exact hfew⟩
  · refine (pm.map Prod.snd).nodup_iff.mpr ?_
    rw [List.map_cons]
    exact List.nodup_cons.mpr ⟨hm, B.nd⟩
  · rcases List.mem_cons.mp (pm.mem_iff.mp hp) with e | hp
    · rw [e]
      exact ⟨key_same ho hd sb hx, hk, hs⟩
    · obtain ⟨h1, h2, h3⟩ := B.key p hp
      exact ⟨key_same ho hd sb h1, h2, h3⟩
/-- when the table is full -/
theorem Mid.full {x : Value} {k : NestedKey} {L1 : List Row} {es1 : Array (Int × Value)} {t1 : SetTable} (M : Mid w sc h a L x k L1 es1 t1) (hfew : L.length + 1 < 64) :
    (t1.tooFull = false ∧ (L.length + 1) * 5 < t1.mask * 3) ∨ ∃ m, t1.tooFull = true ∧ SetTable.sizeAbove (SetTable.grown (L.length + 1)) - 1 = m ∧ MaskOk m ∧ SetTable.sizeAbove (SetTable.grown (L.length + 1)) ≤ 128 ∧ (L.length + 1) * 5 < m * 3 := by
  have hfill : t1.fill = L.length + 1 := by
    have := M.tab.sz
    rw [List.length_map, M.len.2] at this
    unfold SetTable.fill
    rw [M.tab.dm, this]
    rfl
  have hroom := M.room
  by_cases hf : (L.length + 1) * 5 ≥ t1.mask * 3
  · have hc : L.length = 4 ∨ L.length = 18 := by
      rcases M.mask with e | e | e <;> rw [e] at hf hroom <;> omega
    have ht : t1.tooFull = true := by
      unfold SetTable.tooFull
      rw [hfill]
      exact decide_eq_true hf
    rcases hc with e | e
    · exact .inr ⟨31, ht, by rw [e, size_20], .inr (.inl rfl), by rw [e, size_20]; decide, by omega⟩
    · exact .inr ⟨127, ht, by rw [e, size_76], .inr (.inr rfl), by rw [e, size_76]; decide, by omega⟩
  · refine .inl ⟨?_, by omega⟩
    unfold SetTable.tooFull
    rw [hfill]
    exact decide_eq_false hf
end
end FT
end

section
set_option Elab.async false
set_option linter.all false
set_option maxRecDepth 100000
set_option autoImplicit false
/-! FT.SetC: set.add of a key. -/
namespace FT
open PySem L2 LamX PyProof.Rows PySem.SeqAt

section
variable {P : Program} {w : World} {A : Around} {E : Value → Shared → Prop} {s : Shared} {h : Heap} {a : Addr} {L : List Row} {es : Array (Int × Value)} {ep : Nat} {t : SetTable} {sc : Bool}
theorem if_plain (b : Bool) (t1 : SetTable) : (if b = true then t1 else { t1 with plain := false }) = { t1 with plain := b && t1.plain } := by
  cases b <;> rfl
theorem Mid.fits {x : Value} {k : NestedKey} {L1 : List Row} {es1 : Array (Int × Value)} {t1 : SetTable} (M : Mid w sc h a L x k L1 es1 t1) : t1.fits es1.size = true := by
  have := M.len
  have := M.room
  refine fits_tab M.tab (by rw [List.length_map]; omega) ?_
  rw [List.length_map]
  rcases M.mask with e | e | e <;> omega
theorem free_way {hs : List Int} (T : TabOk t hs) {g : Int} {K : Nat} (b1 : K < 10 * SetTable.turns t.mask) (b2 : way t.mask g K ∉ t.place.toList) (b3 : ∀ c, c < K → way t.mask g c ∈ t.place.toList) : t.freeSlot g = some (way t.mask g K, false) := by
  unfold SetTable.freeSlot
  rcases go_spec t T.ris T.dm (fun _ => g + 1) g (10 * SetTable.turns t.mask) K (runAt t.mask (SetTable.bits g % (t.mask + 1)) (SetTable.bits g)) rfl b1 b3 b2 with ⟨q, i, _, _, hh, _⟩ | ⟨_, hp⟩
  · exact absurd hh (by omega)
  · have hp' : t.probe (fun _ => g + 1) g (t.probeStart g) = some (.empty (way t.mask g K) none) := hp
    rw [hp']
    rfl
/-- through the table -/
theorem Bag.addT (B : Bag w false s.heap a L es ep t) {x : Addr} {k : NestedKey} (hx : NestedIs s.heap k (.ref x)) (hk : k.depth ≤ 8) (hu : A.units + 8 < cLine) (hfew : L.length + 1 < 64) {Q : Bool → Shared → Prop}
    (same : k ∈ L.map Prod.snd → Q false s) (more : k ∉ L.map Prod.snd → More w false s.heap a L (.ref x) k fun h' => Q true { s with heap := h' }) :
    wpAny (model P w) A (setAddHashed a (.ref x) (k.hash w)) Q E s := by
  obtain ⟨o, ho, hex, hd⟩ := B.ob
  unfold setAddHashed
  refine wpAny_holding ?_
  rw [show (100000 : Nat) = 99999 + 1 from rfl, setAddHashedIn_succ]
  refine wpAny_bind (wpAny_setState_of ho hd B.fits ?_)
  dsimp only
  refine wp_if_neg (by simp [byScan, Value.scannable]) ?_
  try refine wpAny_bind (wpAny_pure ?_)
  refine wpAny_bind (B.search hx hk hu (fun hm => ?_) fun K hm b2 b3 => ?_)
  · dsimp only
    exact wpAny_pure (same hm)
  dsimp only
  refine wpAny_bind (wpAny_setState_of ho hd B.fits ?_)
  dsimp only
  have hmid := fun b => B.mid (x := .ref x) (k := k) b2 b3 b
  have hp2 : (t.put (way t.mask (k.hash w) K)).2 = SetTable.below t.place (way t.mask (k.hash w) K) := (B.tab.put b2 b3).1
  generalize t.put (way t.mask (k.hash w) K) = pt at hmid hp2 ⊢
  obtain ⟨t1, p⟩ := pt
  dsimp only at hmid hp2 ⊢
  subst hp2
  generalize SetTable.insertAt es (SetTable.below t.place (way t.mask (k.hash w) K)) (k.hash w, Value.ref x) = es1 at hmid ⊢
  have key : ∀ (b : Bool) (t2 : SetTable), t2 = { t1 with plain := b } → wpAny (model P w) A (storeSet a es1 t2) (fun _ s' => (t2.tooFull = true → wpAny (model P w) A (setRelay a (SetTable.grown (es.size + 1))) (fun _ s'' => Q true s'') E s') ∧ (t2.tooFull = false → Q true s')) E s := by
    intro b t2 e2
    obtain ⟨L1, M⟩ := hmid b
    rw [← e2] at M
    have hz := M.len
    refine wpAny_storeSet_of ho hd ?_ (by rw [hz.1, sizeLine_eq]; omega)
    have sb : Heap.SameBut a s.heap (s.heap.update a (Obj.putSet es1 t2)) := Heap.SameBut.update ..
    have ho1 := store_at (es' := es1) (t' := t2) ho hd
    generalize s.heap.update a (Obj.putSet es1 t2) = h1 at sb ho1 ⊢
    refine ⟨fun hf => ?_, fun hf => ?_⟩
    · rcases M.full hfew with ⟨c, _⟩ | ⟨m, _, c2, c3, c4, c5⟩
      · rw [c] at hf; cases hf
      · rw [B.size, setRelay_eq]
        refine wpAny_bind (wpAny_setState_of (s := { s with heap := h1 }) ho1 rfl M.fits ?_)
        obtain ⟨t3, order, L2, r1, r2, r3, r4, r5, r6, r7⟩ := relaid_rows (t := t2) M.rows c2 c3 (by rw [hz.2]; omega)
        have hz2 : (order.filterMap (es1[·]?)).size = es1.size := by
          have := congrArg List.length r3
          simp only [List.length_map, Array.length_toList, r4.length_eq] at this
          rw [this, hz.1, hz.2]
        dsimp only
        refine wp_if_neg (by rw [sizeLine_eq]; omega) ?_
        try refine wpAny_bind (wpAny_pure ?_)
        rw [r1]
        dsimp only
        refine wpAny_bind ?_
        refine wp_if_neg (by rw [hz2]; simp) ?_
        try refine wpAny_bind (wpAny_pure ?_)
        refine wpAny_pure ?_
        dsimp only
        refine wpAny_storeSet_of (s := { s with heap := h1 }) ho1 rfl ?_ (by rw [hz2, hz.1, sizeLine_eq]; omega)
        have sb2 : Heap.SameBut a s.heap (h1.update a (Obj.putSet (order.filterMap (es1[·]?)) t3)) := sb.trans (Heap.SameBut.update h1 a _)
        have B2 := bag_of (es1 := es1) (t1 := t2) (L1 := L1) B hx hk rfl hm hfew (store_at ho1 rfl) ⟨hex.1, hex.2.1, hex.2.2⟩ rfl sb2 r3 r5 (r4.trans M.perm) (by rw [r7]; exact M.led) (by rw [r6]; exact c5)
        exact more hm _ L2 _ _ t3 sb2 B2 (r4.trans M.perm)
    · rcases M.full hfew with ⟨_, c⟩ | ⟨m, c, _⟩
      · exact more hm _ L1 _ _ t2 sb (bag_of (es1 := es1) (t1 := t2) (L1 := L1) B hx hk rfl hm hfew ho1 ⟨hex.1, hex.2.1, hex.2.2⟩ rfl sb M.rows M.tab M.perm M.led c) M.perm
      · rw [c] at hf; cases hf
  have fin : ∀ b : Bool, wpAny (model P w) A (do
      storeSet a es1 (if b = true then t1 else { t1 with plain := false })
      if (!false && (if b = true then t1 else { t1 with plain := false } : SetTable).tooFull) = true then setRelay a (SetTable.grown (es.size + 1))
      pure true) Q E s := by
    intro b
    have k1 := key _ _ (if_plain b t1)
    generalize (if b = true then t1 else { t1 with plain := false } : SetTable) = t2 at k1 ⊢
    refine wpAny_bind (wpAny_mono k1 (fun _ s' k2 => ?_) fun _ _ h => h)
    by_cases hf : t2.tooFull = true
    · first
        | (refine wp_if_pos (by simp [hf]) ?_
           refine wpAny_bind (wpAny_mono (k2.1 hf) (fun _ s'' k3 => wpAny_pure k3) fun _ _ h => h))
        | (refine wpAny_bind ?_
           refine wp_if_pos (by simp [hf]) ?_
           exact wpAny_mono (k2.1 hf) (fun _ s'' k3 => wpAny_pure k3) fun _ _ h => h)
    · have hf : t2.tooFull = false := by simpa using hf
      first
        | exact wp_if_neg (by simp [hf]) (wpAny_pure (k2.2 hf))
        | exact wp_if_neg (by simp [hf]) (wpAny_bind (wpAny_pure (wpAny_pure (k2.2 hf))))
        | exact wpAny_bind (wp_if_neg (by simp [hf]) (wpAny_pure (wpAny_pure (k2.2 hf))))
  by_cases hpl : t1.plain = true
  · first
      | (refine wpAny_bind ?_
         exact wp_if_pos hpl (byval_key k _ 8 s hx A E _ fin))
      | exact wp_if_pos hpl (wpAny_bind (byval_key k _ 8 s hx A E _ fin))
  · first
      | exact wpAny_bind (wp_if_neg hpl (wpAny_pure (fin true)))
      | exact wp_if_neg hpl (wpAny_bind (wpAny_pure (fin true)))
      | exact wp_if_neg hpl (fin true)
/-- through the scan -/
theorem Bag.addS (B : Bag w true s.heap a L es ep t) {x : Value} {k : NestedKey} (hx : NestedIs s.heap k x) (hk : k.depth ≤ 8) (hs : x.scannable = true) (hu : A.units + 8 < cLine) (hfew : L.length + 1 < 64) {Q : Bool → Shared → Prop}
    (same : k ∈ L.map Prod.snd → Q false s) (more : k ∉ L.map Prod.snd → More w true s.heap a L x k fun h' => Q true { s with heap := h' }) :
    wpAny (model P w) A (setAddHashed a x (k.hash w)) Q E s := by
  obtain ⟨o, ho, hex, hd⟩ := B.ob
  have hsz := B.size
  have hfw := B.few
  have hby : byScan x es = true := by
    unfold byScan
    rw [hs, Bool.true_and, Bool.and_eq_true]
    refine ⟨decide_eq_true (by unfold scanBound; omega), ?_⟩
    rw [← Array.all_toList, B.rows, List.all_map, List.all_eq_true]
    exact fun p hp => (B.key p hp).2.2
  unfold setAddHashed
  refine wpAny_holding ?_
  rw [show (100000 : Nat) = 99999 + 1 from rfl, setAddHashedIn_succ]
  refine wpAny_bind (wpAny_setState_of ho hd B.fits ?_)
  dsimp only
  refine wp_if_pos hby ?_
  unfold setAddByScan
  refine wpAny_bind ?_
  refine wpAny_bind (wpAny_rule ?_)
  refine wpAny_bind (B.scan hx hk hu (fun hm j => ?_) fun hm => ?_)
  · dsimp only
    exact wpAny_pure (wpAny_pure (same hm))
  dsimp only
  have hroom := B.room
  obtain ⟨K, b1, b2, b3⟩ := B.tab.first (by rw [List.length_map]; omega) (k.hash w)
  have hmid := fun b => B.mid (x := x) (k := k) b2 b3 b
  have hp2 : (t.put (way t.mask (k.hash w) K)).2 = SetTable.below t.place (way t.mask (k.hash w) K) := (B.tab.put b2 b3).1
  have elay : layNew t es (k.hash w) x = (SetTable.insertAt es (SetTable.below t.place (way t.mask (k.hash w) K)) (k.hash w, x), (t.put (way t.mask (k.hash w) K)).1, false, false) := by
    have hf : (t.put (way t.mask (k.hash w) K)).1.fits (SetTable.insertAt es (SetTable.below t.place (way t.mask (k.hash w) K)) (k.hash w, x)).size = true := by
      obtain ⟨L1, M⟩ := hmid (t.put (way t.mask (k.hash w) K)).1.plain
      exact M.fits
    unfold layNew
    rw [free_way B.tab b1 b2 b3]
    dsimp only
    rw [← hp2] at hf ⊢
    generalize t.put (way t.mask (k.hash w) K) = pt at hf ⊢
    obtain ⟨t1, p⟩ := pt
    dsimp only at hf ⊢
    unfold SetTable.orStandIn
    rw [hf]
    rfl
  rw [elay]
  dsimp only
  clear elay
  generalize (t.put (way t.mask (k.hash w) K)).1 = t1 at hmid ⊢
  generalize SetTable.insertAt es (SetTable.below t.place (way t.mask (k.hash w) K)) (k.hash w, x) = es1 at hmid ⊢
  refine wpAny_bind (m := pure ()) (wpAny_pure ?_)
  have key : ∀ (b : Bool) (t2 : SetTable), t2 = { t1 with plain := b } → wpAny (model P w) A (storeSet a es1 t2) (fun _ s' =>
      (t2.tooFull = true → (relayAll t2 es1 (SetTable.grown es1.size)).2.2 = false ∧ wpAny (model P w) A (storeSet a (relayAll t2 es1 (SetTable.grown es1.size)).1 (relayAll t2 es1 (SetTable.grown es1.size)).2.1) (fun _ s'' => Q true s'') E s') ∧ (t2.tooFull = false → Q true s')) E s := by
    intro b t2 e2
    obtain ⟨L1, M⟩ := hmid b
    rw [← e2] at M
    have hz := M.len
    refine wpAny_storeSet_of ho hd ?_ (by rw [hz.1, sizeLine_eq]; omega)
    have sb : Heap.SameBut a s.heap (s.heap.update a (Obj.putSet es1 t2)) := Heap.SameBut.update ..
    have ho1 := store_at (es' := es1) (t' := t2) ho hd
    generalize s.heap.update a (Obj.putSet es1 t2) = h1 at sb ho1 ⊢
    refine ⟨fun hf => ?_, fun hf => ?_⟩
    · rcases M.full hfew with ⟨c, _⟩ | ⟨m, _, c2, c3, c4, c5⟩
      · rw [c] at hf; cases hf
      · obtain ⟨t3, order, L2, r1, r2, r3, r4, r5, r6, r7⟩ := relaid_rows (t := t2) M.rows c2 c3 (by rw [hz.2]; omega)
        have hz2 : (order.filterMap (es1[·]?)).size = es1.size := by
          have := congrArg List.length r3
          simp only [List.length_map, Array.length_toList, r4.length_eq] at this
          rw [this, hz.1, hz.2]
        have hf3 : t3.fits (order.filterMap (es1[·]?)).size = true := by
          refine fits_tab r5 (by rw [hz2, hz.1, List.length_map, r4.length_eq, hz.2]) ?_
          rw [List.length_map, r4.length_eq, hz.2, r6]
          omega
        have er : relayAll t2 es1 (SetTable.grown es1.size) = (order.filterMap (es1[·]?), t3, false) := by
          unfold relayAll
          rw [hz.1, r1]
          dsimp only
          rw [if_pos (by rw [hf3, ← hz.1, covers r2]; rfl)]
        rw [er]
        refine ⟨rfl, ?_⟩
        refine wpAny_storeSet_of (s := { s with heap := h1 }) ho1 rfl ?_ (by rw [hz2, hz.1, sizeLine_eq]; omega)
        have sb2 : Heap.SameBut a s.heap (h1.update a (Obj.putSet (order.filterMap (es1[·]?)) t3)) := sb.trans (Heap.SameBut.update h1 a _)
        have B2 := bag_of (es1 := es1) (t1 := t2) (L1 := L1) B hx hk hs hm hfew (store_at ho1 rfl) ⟨hex.1, hex.2.1, hex.2.2⟩ rfl sb2 r3 r5 (r4.trans M.perm) (by rw [r7]; exact M.led) (by rw [r6]; exact c5)
        exact more hm _ L2 _ _ t3 sb2 B2 (r4.trans M.perm)
    · rcases M.full hfew with ⟨_, c⟩ | ⟨m, c, _⟩
      · exact more hm _ L1 _ _ t2 sb (bag_of (es1 := es1) (t1 := t2) (L1 := L1) B hx hk hs hm hfew ho1 ⟨hex.1, hex.2.1, hex.2.2⟩ rfl sb M.rows M.tab M.perm M.led c) M.perm
      · rw [c] at hf; cases hf
  have fin : ∀ b : Bool, wpAny (model P w) A (do
      storeSet a es1 (if b = true then t1 else { t1 with plain := false })
      if (!false && (if b = true then t1 else { t1 with plain := false } : SetTable).tooFull) = true then do
        (match (relayAll (if b = true then t1 else { t1 with plain := false }) es1 (SetTable.grown es1.size)).2.2 with
          | true => rule "set.scan.the-table-gave-way"
          | false => pure () : Sem Unit)
        storeSet a (relayAll (if b = true then t1 else { t1 with plain := false }) es1 (SetTable.grown es1.size)).1 (relayAll (if b = true then t1 else { t1 with plain := false }) es1 (SetTable.grown es1.size)).2.1
        pure (some true)
      else pure (some true)) (fun r s' => wpAny (model P w) A (match r with | some added => pure added | none => setAddHashedIn a x (k.hash w) 99999) Q E s') E s := by
    intro b
    have k1 := key _ _ (if_plain b t1)
    generalize (if b = true then t1 else { t1 with plain := false } : SetTable) = t2 at k1 ⊢
    refine wpAny_bind (wpAny_mono k1 (fun _ s' k2 => ?_) fun _ _ h => h)
    by_cases hf : t2.tooFull = true
    · refine wp_if_pos (by simp [hf]) ?_
      obtain ⟨g1, g2⟩ := k2.1 hf
      rw [g1]
      refine wpAny_bind (wpAny_pure ?_)
      exact wpAny_bind (wpAny_mono g2 (fun _ s'' k3 => wpAny_pure (wpAny_pure k3)) fun _ _ h => h)
    · have hf : t2.tooFull = false := by simpa using hf
      exact wp_if_neg (by simp [hf]) (wpAny_pure (wpAny_pure (k2.2 hf)))
  by_cases hpl : t1.plain = true
  · first
      | (refine wpAny_bind ?_
         exact wp_if_pos hpl (byval_key k _ 8 s hx A E _ fin))
      | exact wp_if_pos hpl (wpAny_bind (byval_key k _ 8 s hx A E _ fin))
  · first
      | exact wpAny_bind (wp_if_neg hpl (wpAny_pure (fin true)))
      | exact wp_if_neg hpl (wpAny_bind (wpAny_pure (fin true)))
      | exact wp_if_neg hpl (fin true)
/-- set.add of a key -/
theorem Bag.add (B : Bag w sc s.heap a L es ep t) {x : Value} {k : NestedKey} (hx : NestedIs s.heap k x) (hk : k.depth ≤ 8) (hs : x.scannable = sc) (hu : A.units + 8 < cLine) (hfew : L.length + 1 < 64) {Q : Bool → Shared → Prop}
    (same : k ∈ L.map Prod.snd → Q false s) (more : k ∉ L.map Prod.snd → More w sc s.heap a L x k fun h' => Q true { s with heap := h' }) :
    wpAny (model P w) A (setAddHashed a x (k.hash w)) Q E s := by
  cases sc with
  | true => exact B.addS hx hk hs hu hfew same more
  | false =>
    obtain ⟨b, rfl⟩ := ref_key hx hs
    exact B.addT hx hk hu hfew same more
end
end FT
end

section
set_option Elab.async false
set_option linter.all false
set_option maxRecDepth 100000
set_option autoImplicit false
/-! FT.SetD: set(xs), xs a list or a tuple of keys. -/
namespace FT
open PySem L2 LamX PyProof.Rows PySem.SeqAt

/-- what the set has of the first i rows -/
structure Had (ks : List Row) (i : Nat) (L : List Row) : Prop where
  sub : ∀ p ∈ L, p ∈ ks.take i
  all : ∀ p ∈ ks.take i, p.2 ∈ L.map Prod.snd
  len : L.length ≤ i
theorem Had.start (ks : List Row) : Had ks 0 [] := ⟨fun p h => (by cases h), fun p h => (by simp at h), Nat.le_refl _⟩
theorem take_one {α : Type} {l : List α} {i : Nat} {x : α} (e : l[i]? = some x) : l.take (i + 1) = l.take i ++ [x] := by
  rw [List.take_succ, e]
  rfl
theorem Had.keep {ks L : List Row} {i : Nat} {x : Row} (g : Had ks i L) (e : ks[i]? = some x) (m : x.2 ∈ L.map Prod.snd) : Had ks (i + 1) L := by
  have et := take_one e
  refine ⟨fun p hp => ?_, fun p hp => ?_, Nat.le_succ_of_le g.len⟩
  · rw [et]
    exact List.mem_append.mpr (.inl (g.sub p hp))
  · rw [et] at hp
    rcases List.mem_append.mp hp with z | z
    · exact g.all p z
    · cases List.mem_singleton.mp z
      exact m
theorem Had.more {ks L L' : List Row} {i : Nat} {x : Row} (g : Had ks i L) (e : ks[i]? = some x) (pm : L'.Perm (x :: L)) : Had ks (i + 1) L' := by
  have et := take_one e
  refine ⟨fun p hp => ?_, fun p hp => ?_, ?_⟩
  · rw [et]
    rcases List.mem_cons.mp (pm.mem_iff.mp hp) with z | z
    · rw [z]
      simp
    · exact List.mem_append.mpr (.inl (g.sub p z))
  · rw [(pm.map Prod.snd).mem_iff, List.map_cons]
    rw [et] at hp
    rcases List.mem_append.mp hp with z | z
    · exact .tail _ (g.all p z)
    · cases List.mem_singleton.mp z
      exact .head _
  · have := g.len
    rw [pm.length_eq, List.length_cons]
    omega
section
variable {P : Program} {w : World} {A : Around} {E : Value → Shared → Prop} {s : Shared} {sc : Bool}
theorem key_kept {h h' : Heap} (k : ∀ b o, h.get? b = some o → h'.get? b = some o) {q : NestedKey} {v : Value} (x : NestedIs h q v) : NestedIs h' q v := NestedIs.at (fun b o _ _ e _ => k b o e) q v x
theorem Bag.kept {h h' : Heap} {a : Addr} {L : List Row} {es : Array (Int × Value)} {ep : Nat} {t : SetTable} (B : Bag w sc h a L es ep t) (ha : ∀ o, h.get? a = some o → h'.get? a = some o) (hk : ∀ p ∈ L, NestedIs h' p.2 p.1) : Bag w sc h' a L es ep t := by
  obtain ⟨o, ho, r⟩ := B.ob
  exact ⟨⟨o, ha o ho, r⟩, B.rows, B.tab, B.nd, fun p hp => ⟨hk p hp, (B.key p hp).2⟩, B.led, B.room, B.few⟩
abbrev newSetO (w : World) : Obj := { cls := .type "set", dict := none, data := .set #[] 0 (.fresh 0 0 (!w.params.followText "set-order")) }
theorem bag_new {h : Heap} {a : Addr} (e : h.get? a = some (newSetO w)) : Bag w sc h a [] #[] 0 (.fresh 0 0 (!w.params.followText "set-order")) where
  ob := ⟨_, e, ⟨rfl, rfl, rfl⟩, rfl⟩
  rows := rfl
  tab := ⟨.nil, rfl, rfl, .inl rfl, fun x hx => (by cases hx), fun i g j hi => (by simp at hi)⟩
  nd := .nil
  key := fun p hp => by cases hp
  led := by
    show _ ∨ (!w.params.followText "set-order") = true
    cases w.params.followText "set-order"
    · exact .inr rfl
    · exact .inl rfl
  room := show 0 * 5 < 7 * 3 by decide
  few := show 0 < 64 by decide
/-- the loop of set.update -/
theorem update_keys {I : Addr} {fp wr : List Addr} {G : Array GenState → Array GenState → Prop} {n : Nat} {Pv : Nat → Value → Prop} {St : Nat → Shared → Prop} {R : Result → Shared → Prop} (W : WalksS P w A.in1 I fp wr G n Pv St)
    (a : Addr) (ha : a ∉ fp) (ks : List Row) (hn : n = ks.length) (hfew : ks.length < 64) (hval : ∀ i v, Pv i v → ∃ p, ks[i]? = some p ∧ v = p.1) (h0 : Heap) (hk : ∀ p ∈ ks, NestedIs h0 p.2 p.1 ∧ p.2.depth ≤ 8 ∧ p.1.scannable = sc)
    (ha0 : h0.get? a = none) (hw0 : ∀ b ∈ wr, h0.get? b = none) (hu : A.in1.units + 8 < cLine) :
    ∀ (k i : Nat) (s : Shared), n - i = k → i ≤ n → St i s → (∀ b o, h0.get? b = some o → s.heap.get? b = some o) → (∃ L es ep t, Bag w sc s.heap a L es ep t ∧ Had ks i L) →
      (∀ s' L es ep t, Moved (a :: wr) G s s' → Bag w sc s'.heap a L es ep t → Had ks n L → (∀ b o, h0.get? b = some o → s'.heap.get? b = some o) → R (.ok (.ret .none)) s') →
      codeAny (model P w) A (.builtin "set.update.loop" ⟨[.ref a, .ref I], []⟩) R s := by
  have haw : a ∉ wr := fun z => ha (W.sub _ z)
  have hinc : ∀ b ∈ wr, b ∈ a :: wr := fun b hb => .tail _ hb
  have keepM : ∀ {s s' : Shared}, Moved wr G s s' → (∀ b o, h0.get? b = some o → s.heap.get? b = some o) → ∀ b o, h0.get? b = some o → s'.heap.get? b = some o := fun hm hkp b o e =>
    hm.heap b o (fun hb => by rw [hw0 b hb] at e; cases e) (hkp b o e)
  intro k
  induction k with
  | zero =>
    intro i s hki hi hst hkp hB hR
    obtain ⟨L, es, ep, t, B, g⟩ := hB
    have hin : i = n := by omega
    subst hin
    refine codeAny_builtin F.entry_set_update_loop ?_
    rw [Around.under_plainId F.plain_set_update_loop _]
    show wpAny (model P w) A.in1 (pyNext (.ref I) >>= _) _ _ s
    refine wpAny_bind (W.done s _ _ hst fun s' hm => ?_)
    have hkp' := keepM hm hkp
    exact wpAny_pure (hR s' L es ep t (hm.mono hinc) (B.kept (fun o e => hm.heap a o haw e) fun p hp => key_kept hkp' (hk p (List.mem_of_mem_take (g.sub p hp))).1) g hkp')
  | succ k ih =>
    intro i s hki hi hst hkp hB hR
    obtain ⟨L, es, ep, t, B, g⟩ := hB
    have hlt : i < n := by omega
    refine codeAny_builtin F.entry_set_update_loop ?_
    rw [Around.under_plainId F.plain_set_update_loop _]
    show wpAny (model P w) A.in1 (pyNext (.ref I) >>= _) _ _ s
    refine wpAny_bind (W.item i s _ _ hlt hst fun v s' hP hst' hm => ?_)
    obtain ⟨p, hp, rfl⟩ := hval i v hP
    have hkp' := keepM hm hkp
    have B' : Bag w sc s'.heap a L es ep t := B.kept (fun o e => hm.heap a o haw e) fun q hq => key_kept hkp' (hk q (List.mem_of_mem_take (g.sub q hq))).1
    obtain ⟨x0, xd, xs⟩ := hk p (List.mem_of_getElem? hp)
    have x1 : NestedIs s'.heap p.2 p.1 := key_kept hkp' x0
    show wpAny (model P w) A.in1 (holding [p.1] (setAdd a p.1) >>= _) _ _ s'
    refine wpAny_bind (wpAny_holding ?_)
    unfold setAdd
    refine wpAny_holding ?_
    refine wpAny_bind (pyHash_key p.2 p.1 _ s' _ x1 (by omega) ?_)
    have go : ∀ h' L' es' ep' t', Heap.SameBut a s'.heap h' → Bag w sc h' a L' es' ep' t' → Had ks (i + 1) L' → codeAny (model P w) A (.builtin "set.update.loop" ⟨[.ref a, .ref I], []⟩) R { s' with heap := h', toks := s'.toks + p.2.draws } := by
      intro h' L' es' ep' t' sb B2 g2
      have kept2 : ∀ b o, h0.get? b = some o → h'.get? b = some o := fun b o e => (sb.2 b fun z => by rw [z, ha0] at e; cases e).trans (hkp' b o e)
      refine ih (i + 1) _ (by omega) hlt (W.frame _ s' _ _ hst' (Nat.le_add_right _ _) fun b hb o e => ?_) kept2 ⟨L', es', ep', t', B2, g2⟩ fun s3 L3 es3 ep3 t3 hm3 B3 g3 k3 => ?_
      · exact (sb.2 b fun z => ha (by rw [← z]; exact hb)).trans e
      · refine hR s3 L3 es3 ep3 t3 (Moved.trans W.gtrans ((hm.mono hinc).then_heap (Nat.le_add_right _ _) fun b o hb e => ?_) hm3) B3 g3 k3
        exact (sb.2 b fun z => hb (by rw [z]; exact .head _)).trans e
    refine Bag.add (s := { s' with toks := s'.toks + p.2.draws }) B' x1 xd xs (by omega) (by have := g.len; omega) (fun m => ?_) fun m h' L' es' ep' t' sb B2 pm => ?_
    · exact wpAny_pure ⟨plainId_quiet F.plain_set_update_loop _, go _ L es ep t (Heap.SameBut.refl a s'.heap) B' (g.keep hp m)⟩
    · exact wpAny_pure ⟨plainId_quiet F.plain_set_update_loop _, go _ L' es' ep' t' sb B2 (g.more hp pm)⟩
end
end FT
end

section
set_option Elab.async false
set_option linter.all false
set_option maxRecDepth 100000
set_option autoImplicit false
/-! FT.SetE: set(xs) called. -/
namespace FT
open PySem L2 LamX PyProof.Rows PySem.SeqAt
section
variable {P : Program} {w : World} {A : Around} {E : Value → Shared → Prop} {s : Shared} {sc : Bool}

set_option maxHeartbeats 3200000 in
/-- set(xs), xs a list -/
theorem set_list {l : Addr} {items : Array Value} (ks : List Row) {Q : Value → Shared → Prop} (hh : A.handled = none) (hl : s.heap.IsList l items) (hit : items.toList = ks.map Prod.fst) (hk : ∀ p ∈ ks, NestedIs s.heap p.2 p.1 ∧ p.2.depth ≤ 8 ∧ p.1.scannable = sc) (hfew : ks.length < 64) (hu : A.units + 11 < cLine)
    (fin : ∀ (h' : Heap) (tk : Nat) L es ep t, Bag w sc h' s.heap.objs.size L es ep t → Had ks ks.length L → (∀ b o, s.heap.get? b = some o → h'.get? b = some o) → Q (.ref s.heap.objs.size) { s with heap := h', toks := tk }) :
    wpAny (model P w) A (call (.type "set") [.ref l]) Q E s := by
  have hcnt : items.size = ks.length := by
    have := congrArg List.length hit
    simpa using this
  obtain ⟨top, below, line⟩ := F.called_set.mro
  have made := F.called_set.made
  have under := F.called_set.sub
  refine wpAny_call (codeAny_of_tree ?_)
  show wpAny _ _ (callAny (.type "set") _) _ _ s
  refine wpAny_pure ⟨Code.quiet_builtin _ (by decide +kernel), codeAny_builtin F.entry_type_call ?_⟩
  rw [Around.under_plain (weight_type_call_type "set" [.ref l] []) rfl]
  have nt := F.called_set.notType
  have can := F.called_set.canCreate
  have tc := F.typeCall_set_1 (.ref l)
  repeat (any_goals (first | assumption | wp_step))
  refine codeAny_mono (code_set_led1 (.ref l) (E := E) (Q₁ := fun obj s₁ => obj = .ref s.heap.objs.size ∧ s₁ = { s with heap := s.heap.push (newSetO w) }) ⟨rfl, rfl⟩) fun r s₁ hr => ?_
  cases r with
  | error e => exact hr
  | ok fl =>
    cases fl with
    | ret obj =>
      obtain ⟨rfl, rfl⟩ := hr
      have laid : (s.heap.push (newSetO w)).get? s.heap.objs.size = some (newSetO w) := Heap.get?_push_size _ rfl
      have ty : Shared.TypeIs { s with heap := s.heap.push (newSetO w) } (.ref s.heap.objs.size) "set" := ⟨_, laid, rfl⟩
      have ini := F.called_set.init.lookup
      have bnd := F.called_set.init.bind (.ref s.heap.objs.size)
      repeat (any_goals (first | assumption | wp_step))
      refine codeAny_mono (codeAny_call_builtin (R := wants (fun r s₂ => r = .none ∧ ∃ h' tk L es ep t, s₂ = { s with heap := h', toks := tk } ∧ Bag w sc h' s.heap.objs.size L es ep t ∧ Had ks ks.length L ∧
          (∀ b o, s.heap.get? b = some o → h'.get? b = some o)) E) F.called_set.init.plain F.entry_set_init (check_set_init_1 ty ?_)) fun r₂ s₂ hr₂ => ?_
      · obtain ⟨ol, hol, hcl, nl, hdl⟩ := hl
        obtain ⟨ocls, odict, odata, oslots⟩ := ol
        simp only at hcl hdl
        subst hcl
        subst hdl
        have hol' : (s.heap.push (newSetO w)).get? l = some { cls := .type "list", dict := odict, data := .seq items nl, slots := oslots } := Heap.get?_push_of_some _ hol
        have n1 := F.sub_list_set
        have n2 := F.sub_list_frozenset
        have n3 : (Value.type "list" == Value.type "dict") = false := by decide
        have src : (s.heap.push (newSetO w)).IsList l items := ⟨_, hol', rfl, nl, rfl⟩
        unfold Builtin.«set.__init__» noKeywords Builtin.Frozenset.updateFrom
        generalize hPI : pyIter = PI
        wp_walk
        subst hPI
        refine wpAny_pyIter_list src ?_
        refine wpAny_bind (wpAny_runValue ?_)
        have hlS : l < s.heap.objs.size := Heap.lt_size hol
        have quiet3 : A.in1.in1.in1.handled = none := by simp [hh]
        have ez : (s.heap.push (newSetO w)).objs.size = s.heap.objs.size + 1 := Heap.size_push ..
        have neI : l ≠ (s.heap.push (newSetO w)).objs.size := by
          rw [ez]; exact fun z => absurd (Nat.lt_succ_of_lt hlS) (by rw [z]; exact Nat.lt_irrefl _)
        have notin : s.heap.objs.size ∉ [(s.heap.push (newSetO w)).objs.size, l] := by
          rw [ez]; intro z
          rcases List.mem_cons.mp z with z | z
          · exact absurd z (Nat.ne_of_lt (Nat.lt_succ_self s.heap.objs.size))
          · exact absurd (List.mem_singleton.mp z).symm (Nat.ne_of_lt hlS)
        have at_ : ∀ (i : Nat) (v : Value), items[i]? = some v → ∃ p, ks[i]? = some p ∧ v = p.1 := fun i v hv => by
          have q : items.toList[i]? = some v := by rw [Array.getElem?_toList]; exact hv
          rw [hit, List.getElem?_map] at q
          obtain ⟨p, h1, h2⟩ := Option.map_eq_some_iff.mp q
          exact ⟨p, h1, h2.symm⟩
        have none_ : ∀ b, s.heap.objs.size ≤ b → s.heap.get? b = none := fun b hb => by
          cases q : s.heap.get? b with
          | none => rfl
          | some o => exact absurd (Heap.lt_size q) (Nat.not_lt.mpr hb)
        refine update_keys ((Walks.list quiet3 _ l neI items).toS) s.heap.objs.size notin ks hcnt hfew at_ s.heap hk (none_ _ (Nat.le_refl _)) (fun b hb => none_ b (by
            rw [List.mem_singleton.mp hb, ez]; exact Nat.le_add_right _ 1)) (by simp only [Around.in1_units]; omega) (items.size - 0) 0 _ (by omega) (Nat.zero_le _)
          ⟨⟨_, Heap.get?_push_size _ rfl, rfl, rfl⟩, (src.push _)⟩ (fun b o e => Heap.get?_push_of_some _ (Heap.get?_push_of_some _ e)) ?begins ?ends
        case begins => exact ⟨[], #[], 0, _, bag_new (Heap.get?_push_of_some _ laid), Had.start ks⟩
        case ends =>
          intro s' L es ep t hm B g kp
          obtain ⟨h', g2, d', tk', os'⟩ := s'
          have eg : g2 = s.gens := hm.gens
          have ed : d' = s.drawn := hm.drawn
          have eo : os' = s.os := hm.os
          subst eg ed eo
          rw [hcnt] at g
          refine wpAny_pure ?_
          exact wpAny_pure ⟨rfl, h', tk', L, es, ep, t, rfl, B, g, kp⟩
      · cases r₂ with
        | error e => exact hr₂
        | ok fl₂ =>
          cases fl₂ with
          | ret r =>
            obtain ⟨rfl, h', tk, L, es, ep, t, rfl, B, g, kp⟩ := hr₂
            repeat (any_goals (first | assumption | wp_step))
            exact fin _ _ _ _ _ _ B g kp
          | _ => exact hr₂.elim
    | _ => exact hr.elim


set_option maxHeartbeats 3200000 in
/-- set(xs), xs a tuple -/
theorem set_tuple {l : Addr} {items : Array Value} (ks : List Row) {Q : Value → Shared → Prop} (hh : A.handled = none) (hl : s.heap.IsTuple l items) (hit : items.toList = ks.map Prod.fst) (hk : ∀ p ∈ ks, NestedIs s.heap p.2 p.1 ∧ p.2.depth ≤ 8 ∧ p.1.scannable = sc) (hfew : ks.length < 64) (hu : A.units + 11 < cLine)
    (fin : ∀ (h' : Heap) (tk : Nat) L es ep t, Bag w sc h' s.heap.objs.size L es ep t → Had ks ks.length L → (∀ b o, s.heap.get? b = some o → h'.get? b = some o) → Q (.ref s.heap.objs.size) { s with heap := h', toks := tk }) :
    wpAny (model P w) A (call (.type "set") [.ref l]) Q E s := by
  have hcnt : items.size = ks.length := by
    have := congrArg List.length hit
    simpa using this
  obtain ⟨top, below, line⟩ := F.called_set.mro
  have made := F.called_set.made
  have under := F.called_set.sub
  refine wpAny_call (codeAny_of_tree ?_)
  show wpAny _ _ (callAny (.type "set") _) _ _ s
  refine wpAny_pure ⟨Code.quiet_builtin _ (by decide +kernel), codeAny_builtin F.entry_type_call ?_⟩
  rw [Around.under_plain (weight_type_call_type "set" [.ref l] []) rfl]
  have nt := F.called_set.notType
  have can := F.called_set.canCreate
  have tc := F.typeCall_set_1 (.ref l)
  repeat (any_goals (first | assumption | wp_step))
  refine codeAny_mono (code_set_led1 (.ref l) (E := E) (Q₁ := fun obj s₁ => obj = .ref s.heap.objs.size ∧ s₁ = { s with heap := s.heap.push (newSetO w) }) ⟨rfl, rfl⟩) fun r s₁ hr => ?_
  cases r with
  | error e => exact hr
  | ok fl =>
    cases fl with
    | ret obj =>
      obtain ⟨rfl, rfl⟩ := hr
      have laid : (s.heap.push (newSetO w)).get? s.heap.objs.size = some (newSetO w) := Heap.get?_push_size _ rfl
      have ty : Shared.TypeIs { s with heap := s.heap.push (newSetO w) } (.ref s.heap.objs.size) "set" := ⟨_, laid, rfl⟩
      have ini := F.called_set.init.lookup
      have bnd := F.called_set.init.bind (.ref s.heap.objs.size)
      repeat (any_goals (first | assumption | wp_step))
      refine codeAny_mono (codeAny_call_builtin (R := wants (fun r s₂ => r = .none ∧ ∃ h' tk L es ep t, s₂ = { s with heap := h', toks := tk } ∧ Bag w sc h' s.heap.objs.size L es ep t ∧ Had ks ks.length L ∧
          (∀ b o, s.heap.get? b = some o → h'.get? b = some o)) E) F.called_set.init.plain F.entry_set_init (check_set_init_1 ty ?_)) fun r₂ s₂ hr₂ => ?_
      · obtain ⟨ol, hol, hcl, nl, hdl⟩ := hl
        obtain ⟨ocls, odict, odata, oslots⟩ := ol
        simp only at hcl hdl
        subst hcl
        subst hdl
        have hol' : (s.heap.push (newSetO w)).get? l = some { cls := .type "tuple", dict := odict, data := .seq items nl, slots := oslots } := Heap.get?_push_of_some _ hol
        have n1 := F.sub_tuple_set
        have n2 := F.sub_tuple_frozenset
        have n3 : (Value.type "tuple" == Value.type "dict") = false := by decide
        have src : (s.heap.push (newSetO w)).IsTuple l items := ⟨_, hol', rfl, nl, rfl⟩
        unfold Builtin.«set.__init__» noKeywords Builtin.Frozenset.updateFrom
        generalize hPI : pyIter = PI
        wp_walk
        subst hPI
        refine wpAny_pyIter_tuple src ?_
        refine wpAny_bind (wpAny_runValue ?_)
        have hlS : l < s.heap.objs.size := Heap.lt_size hol
        have quiet3 : A.in1.in1.in1.handled = none := by simp [hh]
        have ez : (s.heap.push (newSetO w)).objs.size = s.heap.objs.size + 1 := Heap.size_push ..
        have neI : l ≠ (s.heap.push (newSetO w)).objs.size := by
          rw [ez]; exact fun z => absurd (Nat.lt_succ_of_lt hlS) (by rw [z]; exact Nat.lt_irrefl _)
        have notin : s.heap.objs.size ∉ [(s.heap.push (newSetO w)).objs.size, l] := by
          rw [ez]; intro z
          rcases List.mem_cons.mp z with z | z
          · exact absurd z (Nat.ne_of_lt (Nat.lt_succ_self s.heap.objs.size))
          · exact absurd (List.mem_singleton.mp z).symm (Nat.ne_of_lt hlS)
        have at_ : ∀ (i : Nat) (v : Value), items[i]? = some v → ∃ p, ks[i]? = some p ∧ v = p.1 := fun i v hv => by
          have q : items.toList[i]? = some v := by rw [Array.getElem?_toList]; exact hv
          rw [hit, List.getElem?_map] at q
          obtain ⟨p, h1, h2⟩ := Option.map_eq_some_iff.mp q
          exact ⟨p, h1, h2.symm⟩
        have none_ : ∀ b, s.heap.objs.size ≤ b → s.heap.get? b = none := fun b hb => by
          cases q : s.heap.get? b with
          | none => rfl
          | some o => exact absurd (Heap.lt_size q) (Nat.not_lt.mpr hb)
        refine update_keys ((Walks.tuple quiet3 _ l neI items).toS) s.heap.objs.size notin ks hcnt hfew at_ s.heap hk (none_ _ (Nat.le_refl _)) (fun b hb => none_ b (by
            rw [List.mem_singleton.mp hb, ez]; exact Nat.le_add_right _ 1)) (by simp only [Around.in1_units]; omega) (items.size - 0) 0 _ (by omega) (Nat.zero_le _)
          ⟨⟨_, Heap.get?_push_size _ rfl, rfl, rfl⟩, (src.push _)⟩ (fun b o e => Heap.get?_push_of_some _ (Heap.get?_push_of_some _ e)) ?begins ?ends
        case begins => exact ⟨[], #[], 0, _, bag_new (Heap.get?_push_of_some _ laid), Had.start ks⟩
        case ends =>
          intro s' L es ep t hm B g kp
          obtain ⟨h', g2, d', tk', os'⟩ := s'
          have eg : g2 = s.gens := hm.gens
          have ed : d' = s.drawn := hm.drawn
          have eo : os' = s.os := hm.os
          subst eg ed eo
          rw [hcnt] at g
          refine wpAny_pure ?_
          exact wpAny_pure ⟨rfl, h', tk', L, es, ep, t, rfl, B, g, kp⟩
      · cases r₂ with
        | error e => exact hr₂
        | ok fl₂ =>
          cases fl₂ with
          | ret r =>
            obtain ⟨rfl, h', tk, L, es, ep, t, rfl, B, g, kp⟩ := hr₂
            repeat (any_goals (first | assumption | wp_step))
            exact fin _ _ _ _ _ _ B g kp
          | _ => exact hr₂.elim
    | _ => exact hr.elim

end
end FT
end

section
set_option Elab.async false
set_option linter.all false
set_option maxRecDepth 100000
set_option autoImplicit false
/-! FT.SetF: data as keys. -/
namespace FT
open PySem L2 LamX PyProof.Rows

/-! ### data in one order -/
theorem str_ext {a b : Str} (h : a.cps.toList = b.cps.toList) : a = b := by
  cases a; cases b
  simp only at h
  congr
  exact Array.toList_inj.mp h
mutual
theorem eq_of_eqT : ∀ x y : D, ordT x y = true → eqT x y = true → x = y
  | .bl _, .bl _, _, h => by simpa [eqT] using h
  | .int _, .int _, _, h => by simpa [eqT] using h
  | .str _, .str _, _, h => by simpa [eqT] using h
  | .tup xs, .tup ys, o, h => by rw [eq_of_eqTs xs ys (by simpa [ordT] using o) (by simpa [eqT] using h)]
  | .lst xs, .lst ys, o, h => by rw [eq_of_eqTs xs ys (by simpa [ordT] using o) (by simpa [eqT] using h)]
  | .non, b, h, _ => by cases b <;> simp [ordT] at h
  | .dct _, b, h, _ => by cases b <;> simp [ordT] at h
  | .obj _, b, h, _ => by cases b <;> simp [ordT] at h
  | .ins _ _, b, h, _ => by cases b <;> simp [ordT] at h
  | .exc _ _, b, h, _ => by cases b <;> simp [ordT] at h
  | .fn _, b, h, _ => by cases b <;> simp [ordT] at h
  | .bl _, .non, h, _ | .bl _, .int _, h, _ | .bl _, .str _, h, _ | .bl _, .tup _, h, _ | .bl _, .lst _, h, _ | .bl _, .dct _, h, _ | .bl _, .obj _, h, _ | .bl _, .ins _ _, h, _ | .bl _, .exc _ _, h, _ | .bl _, .fn _, h, _ => by simp [ordT] at h
  | .int _, .non, h, _ | .int _, .bl _, h, _ | .int _, .str _, h, _ | .int _, .tup _, h, _ | .int _, .lst _, h, _ | .int _, .dct _, h, _ | .int _, .obj _, h, _ | .int _, .ins _ _, h, _ | .int _, .exc _ _, h, _ | .int _, .fn _, h, _ => by simp [ordT] at h
  | .str _, .non, h, _ | .str _, .bl _, h, _ | .str _, .int _, h, _ | .str _, .tup _, h, _ | .str _, .lst _, h, _ | .str _, .dct _, h, _ | .str _, .obj _, h, _ | .str _, .ins _ _, h, _ | .str _, .exc _ _, h, _ | .str _, .fn _, h, _ => by simp [ordT] at h
  | .tup _, .non, h, _ | .tup _, .bl _, h, _ | .tup _, .int _, h, _ | .tup _, .str _, h, _ | .tup _, .lst _, h, _ | .tup _, .dct _, h, _ | .tup _, .obj _, h, _ | .tup _, .ins _ _, h, _ | .tup _, .exc _ _, h, _ | .tup _, .fn _, h, _ => by simp [ordT] at h
  | .lst _, .non, h, _ | .lst _, .bl _, h, _ | .lst _, .int _, h, _ | .lst _, .str _, h, _ | .lst _, .tup _, h, _ | .lst _, .dct _, h, _ | .lst _, .obj _, h, _ | .lst _, .ins _ _, h, _ | .lst _, .exc _ _, h, _ | .lst _, .fn _, h, _ => by simp [ordT] at h
theorem eq_of_eqTs : ∀ xs ys : List D, ordTs xs ys = true → eqTs xs ys = true → xs = ys
  | [], [], _, _ => rfl
  | [], _ :: _, _, h => by simp [eqTs] at h
  | _ :: _, [], _, h => by simp [eqTs] at h
  | x :: xs, y :: ys, o, h => by
    have o' : ordT x y = true ∧ ordTs xs ys = true := by simpa [ordTs] using o
    have h' : eqT x y = true ∧ eqTs xs ys = true := by simpa [eqTs] using h
    rw [eq_of_eqT x y o'.1 h'.1, eq_of_eqTs xs ys o'.2 h'.2]
end
mutual
theorem ord_comm : ∀ x y : D, ordT x y = true → ordT y x = true
  | .bl _, .bl _, _ => by simp [ordT]
  | .int _, .int _, _ => by simp [ordT]
  | .str _, .str _, h => by
    simp only [ordT, Bool.and_eq_true] at h ⊢
    exact ⟨h.2, h.1⟩
  | .tup xs, .tup ys, h => by simpa [ordT] using ords_comm xs ys (by simpa [ordT] using h)
  | .lst xs, .lst ys, h => by simpa [ordT] using ords_comm xs ys (by simpa [ordT] using h)
  | .non, b, h => by cases b <;> simp [ordT] at h
  | .dct _, b, h => by cases b <;> simp [ordT] at h
  | .obj _, b, h => by cases b <;> simp [ordT] at h
  | .ins _ _, b, h => by cases b <;> simp [ordT] at h
  | .exc _ _, b, h => by cases b <;> simp [ordT] at h
  | .fn _, b, h => by cases b <;> simp [ordT] at h
  | .bl _, .non, h | .bl _, .int _, h | .bl _, .str _, h | .bl _, .tup _, h | .bl _, .lst _, h | .bl _, .dct _, h | .bl _, .obj _, h | .bl _, .ins _ _, h | .bl _, .exc _ _, h | .bl _, .fn _, h => by simp [ordT] at h
  | .int _, .non, h | .int _, .bl _, h | .int _, .str _, h | .int _, .tup _, h | .int _, .lst _, h | .int _, .dct _, h | .int _, .obj _, h | .int _, .ins _ _, h | .int _, .exc _ _, h | .int _, .fn _, h => by simp [ordT] at h
  | .str _, .non, h | .str _, .bl _, h | .str _, .int _, h | .str _, .tup _, h | .str _, .lst _, h | .str _, .dct _, h | .str _, .obj _, h | .str _, .ins _ _, h | .str _, .exc _ _, h | .str _, .fn _, h => by simp [ordT] at h
  | .tup _, .non, h | .tup _, .bl _, h | .tup _, .int _, h | .tup _, .str _, h | .tup _, .lst _, h | .tup _, .dct _, h | .tup _, .obj _, h | .tup _, .ins _ _, h | .tup _, .exc _ _, h | .tup _, .fn _, h => by simp [ordT] at h
  | .lst _, .non, h | .lst _, .bl _, h | .lst _, .int _, h | .lst _, .str _, h | .lst _, .tup _, h | .lst _, .dct _, h | .lst _, .obj _, h | .lst _, .ins _ _, h | .lst _, .exc _ _, h | .lst _, .fn _, h => by simp [ordT] at h
theorem ords_comm : ∀ xs ys : List D, ordTs xs ys = true → ordTs ys xs = true
  | [], [], _ => by simp [ordTs]
  | [], _ :: _, _ => by simp [ordTs]
  | _ :: _, [], _ => by simp [ordTs]
  | x :: xs, y :: ys, h => by
    have h' : ordT x y = true ∧ ordTs xs ys = true := by simpa [ordTs] using h
    simp [ordTs, ord_comm x y h'.1, ords_comm xs ys h'.2]
end
mutual
theorem eqT_self : ∀ x : D, ordT x x = true → eqT x x = true
  | .bl _, _ | .int _, _ | .str _, _ => by simp [eqT]
  | .tup xs, h => by simpa [eqT] using eqTs_self xs (by simpa [ordT] using h)
  | .lst xs, h => by simpa [eqT] using eqTs_self xs (by simpa [ordT] using h)
  | .non, h | .dct _, h | .obj _, h | .ins _ _, h | .exc _ _, h | .fn _, h => by simp [ordT] at h
theorem eqTs_self : ∀ xs : List D, ordTs xs xs = true → eqTs xs xs = true
  | [], _ => by simp [eqTs]
  | x :: xs, h => by
    have h' : ordT x x = true ∧ ordTs xs xs = true := by simpa [ordTs] using h
    simp [eqTs, eqT_self x h'.1, eqTs_self xs h'.2]
end
mutual
theorem key_inj : ∀ x y : D, ordT x y = true → hshT x = true → hshT y = true → keyT x = keyT y → x = y
  | .bl a, .bl b, _, _, _, h => by cases a <;> cases b <;> first | rfl | simp [keyT] at h
  | .int _, .int _, _, _, _, h => by simpa [keyT] using h
  | .str _, .str _, _, _, _, h => by simpa [keyT] using h
  | .tup xs, .tup ys, o, a, b, h => by rw [keys_inj xs ys (by simpa [ordT] using o) (by simpa [hshT] using a) (by simpa [hshT] using b) (by simpa [keyT] using h)]
  | .lst _, _, _, h, _, _ => by simp [hshT] at h
  | .non, b, h, _, _, _ => by cases b <;> simp [ordT] at h
  | .dct _, b, h, _, _, _ => by cases b <;> simp [ordT] at h
  | .obj _, b, h, _, _, _ => by cases b <;> simp [ordT] at h
  | .ins _ _, b, h, _, _, _ => by cases b <;> simp [ordT] at h
  | .exc _ _, b, h, _, _, _ => by cases b <;> simp [ordT] at h
  | .fn _, b, h, _, _, _ => by cases b <;> simp [ordT] at h
  | .bl _, .non, h, _, _, _ | .bl _, .int _, h, _, _, _ | .bl _, .str _, h, _, _, _ | .bl _, .tup _, h, _, _, _ | .bl _, .lst _, h, _, _, _ | .bl _, .dct _, h, _, _, _ | .bl _, .obj _, h, _, _, _ | .bl _, .ins _ _, h, _, _, _ | .bl _, .exc _ _, h, _, _, _ | .bl _, .fn _, h, _, _, _ => by simp [ordT] at h
  | .int _, .non, h, _, _, _ | .int _, .bl _, h, _, _, _ | .int _, .str _, h, _, _, _ | .int _, .tup _, h, _, _, _ | .int _, .lst _, h, _, _, _ | .int _, .dct _, h, _, _, _ | .int _, .obj _, h, _, _, _ | .int _, .ins _ _, h, _, _, _ | .int _, .exc _ _, h, _, _, _ | .int _, .fn _, h, _, _, _ => by simp [ordT] at h
  | .str _, .non, h, _, _, _ | .str _, .bl _, h, _, _, _ | .str _, .int _, h, _, _, _ | .str _, .tup _, h, _, _, _ | .str _, .lst _, h, _, _, _ | .str _, .dct _, h, _, _, _ | .str _, .obj _, h, _, _, _ | .str _, .ins _ _, h, _, _, _ | .str _, .exc _ _, h, _, _, _ | .str _, .fn _, h, _, _, _ => by simp [ordT] at h
  | .tup _, .non, h, _, _, _ | .tup _, .bl _, h, _, _, _ | .tup _, .int _, h, _, _, _ | .tup _, .str _, h, _, _, _ | .tup _, .lst _, h, _, _, _ | .tup _, .dct _, h, _, _, _ | .tup _, .obj _, h, _, _, _ | .tup _, .ins _ _, h, _, _, _ | .tup _, .exc _ _, h, _, _, _ | .tup _, .fn _, h, _, _, _ => by simp [ordT] at h
theorem keys_inj : ∀ xs ys : List D, ordTs xs ys = true → hshTs xs = true → hshTs ys = true → keyTs xs = keyTs ys → xs = ys
  | [], [], _, _, _, _ => rfl
  | [], _ :: _, _, _, _, h => by simp [keyTs] at h
  | _ :: _, [], _, _, _, h => by simp [keyTs] at h
  | x :: xs, y :: ys, o, a, b, h => by
    have o' : ordT x y = true ∧ ordTs xs ys = true := by simpa [ordTs] using o
    have a' : hshT x = true ∧ hshTs xs = true := by simpa [hshTs] using a
    have b' : hshT y = true ∧ hshTs ys = true := by simpa [hshTs] using b
    have h' : keyT x = keyT y ∧ keyTs xs = keyTs ys := by simpa [keyTs] using h
    rw [key_inj x y o'.1 a'.1 b'.1 h'.1, keys_inj xs ys o'.2 a'.2 b'.2 h'.2]
end
mutual
theorem lt_none : ∀ x y : D, ordT x y = true → ltT x y = false → ltT y x = false → x = y
  | .bl a, .bl b, _, h, k => by cases a <;> cases b <;> first | rfl | simp [ltT] at h k
  | .int _, .int _, _, h, k => by
    simp [ltT] at h k
    congr 1
    omega
  | .str a, .str b, _, h, k => by
    simp only [ltT, decide_eq_false_iff_not] at h k
    rw [str_ext (List.le_antisymm (List.not_lt.mp k) (List.not_lt.mp h))]
  | .tup xs, .tup ys, o, h, k => by rw [lts_none xs ys (by simpa [ordT] using o) (by simpa [ltT] using h) (by simpa [ltT] using k)]
  | .lst xs, .lst ys, o, h, k => by rw [lts_none xs ys (by simpa [ordT] using o) (by simpa [ltT] using h) (by simpa [ltT] using k)]
  | .non, b, h, _, _ => by cases b <;> simp [ordT] at h
  | .dct _, b, h, _, _ => by cases b <;> simp [ordT] at h
  | .obj _, b, h, _, _ => by cases b <;> simp [ordT] at h
  | .ins _ _, b, h, _, _ => by cases b <;> simp [ordT] at h
  | .exc _ _, b, h, _, _ => by cases b <;> simp [ordT] at h
  | .fn _, b, h, _, _ => by cases b <;> simp [ordT] at h
  | .bl _, .non, h, _, _ | .bl _, .int _, h, _, _ | .bl _, .str _, h, _, _ | .bl _, .tup _, h, _, _ | .bl _, .lst _, h, _, _ | .bl _, .dct _, h, _, _ | .bl _, .obj _, h, _, _ | .bl _, .ins _ _, h, _, _ | .bl _, .exc _ _, h, _, _ | .bl _, .fn _, h, _, _ => by simp [ordT] at h
  | .int _, .non, h, _, _ | .int _, .bl _, h, _, _ | .int _, .str _, h, _, _ | .int _, .tup _, h, _, _ | .int _, .lst _, h, _, _ | .int _, .dct _, h, _, _ | .int _, .obj _, h, _, _ | .int _, .ins _ _, h, _, _ | .int _, .exc _ _, h, _, _ | .int _, .fn _, h, _, _ => by simp [ordT] at h
  | .str _, .non, h, _, _ | .str _, .bl _, h, _, _ | .str _, .int _, h, _, _ | .str _, .tup _, h, _, _ | .str _, .lst _, h, _, _ | .str _, .dct _, h, _, _ | .str _, .obj _, h, _, _ | .str _, .ins _ _, h, _, _ | .str _, .exc _ _, h, _, _ | .str _, .fn _, h, _, _ => by simp [ordT] at h
  | .tup _, .non, h, _, _ | .tup _, .bl _, h, _, _ | .tup _, .int _, h, _, _ | .tup _, .str _, h, _, _ | .tup _, .lst _, h, _, _ | .tup _, .dct _, h, _, _ | .tup _, .obj _, h, _, _ | .tup _, .ins _ _, h, _, _ | .tup _, .exc _ _, h, _, _ | .tup _, .fn _, h, _, _ => by simp [ordT] at h
  | .lst _, .non, h, _, _ | .lst _, .bl _, h, _, _ | .lst _, .int _, h, _, _ | .lst _, .str _, h, _, _ | .lst _, .tup _, h, _, _ | .lst _, .dct _, h, _, _ | .lst _, .obj _, h, _, _ | .lst _, .ins _ _, h, _, _ | .lst _, .exc _ _, h, _, _ | .lst _, .fn _, h, _, _ => by simp [ordT] at h
theorem lts_none : ∀ xs ys : List D, ordTs xs ys = true → ltTs xs ys = false → ltTs ys xs = false → xs = ys
  | [], [], _, _, _ => rfl
  | [], _ :: _, _, h, _ => by simp [ltTs] at h
  | _ :: _, [], _, _, h => by simp [ltTs] at h
  | x :: xs, y :: ys, o, h, k => by
    have o' : ordT x y = true ∧ ordTs xs ys = true := by simpa [ordTs] using o
    simp only [ltTs] at h k
    by_cases e : eqT x y = true
    · have exy := eq_of_eqT x y o'.1 e
      subst exy
      rw [if_pos e] at h k
      rw [lts_none xs ys o'.2 h k]
    · rw [if_neg e] at h
      by_cases e2 : eqT y x = true
      · exfalso
        have : ¬ x = y := fun z => by
          subst z
          exact e e2
        rw [if_pos e2] at k
        exact this (eq_of_eqT y x (ord_comm x y o'.1) e2).symm
      · rw [if_neg e2] at k
        have z := lt_none x y o'.1 h k
        subst z
        exact absurd (eqT_self x o'.1) e
end
/-! ### without doubles -/
theorem dedup_sub : ∀ {ds : List D} {d : D}, d ∈ dedupT ds → d ∈ ds
  | x :: xs, d, h => by
    unfold dedupT at h
    split at h
    · exact .tail _ (dedup_sub h)
    · rcases List.mem_cons.mp h with e | h
      · rw [e]; exact .head _
      · exact .tail _ (dedup_sub h)
theorem dedup_mem : ∀ {ds : List D}, (∀ x ∈ ds, ∀ y ∈ ds, ordT x y = true) → ∀ {d : D}, d ∈ ds → d ∈ dedupT ds
  | x :: xs, o, d, h => by
    have o2 : ∀ a ∈ xs, ∀ b ∈ xs, ordT a b = true := fun a ha b hb => o a (.tail _ ha) b (.tail _ hb)
    unfold dedupT
    split
    · rename_i hx
      obtain ⟨y, hy, e⟩ := List.any_eq_true.mp hx
      have exy := eq_of_eqT x y (o x (.head _) y (.tail _ hy)) e
      rcases List.mem_cons.mp h with e | h
      · rw [e, exy]; exact dedup_mem o2 hy
      · exact dedup_mem o2 h
    · rcases List.mem_cons.mp h with e | h
      · rw [e]; exact .head _
      · exact .tail _ (dedup_mem o2 h)
theorem dedup_nodup : ∀ {ds : List D}, (∀ x ∈ ds, ∀ y ∈ ds, ordT x y = true) → (dedupT ds).Nodup
  | [], _ => .nil
  | x :: xs, o => by
    have o2 : ∀ a ∈ xs, ∀ b ∈ xs, ordT a b = true := fun a ha b hb => o a (.tail _ ha) b (.tail _ hb)
    unfold dedupT
    split
    · exact dedup_nodup o2
    · rename_i hx
      refine List.nodup_cons.mpr ⟨fun m => hx ?_, dedup_nodup o2⟩
      exact List.any_eq_true.mpr ⟨x, dedup_sub m, eqT_self x (o x (.head _) x (.head _))⟩
theorem ord_all {ds : List D} (h : ordAll ds = true) : ∀ x ∈ ds, ∀ y ∈ ds, ordT x y = true := by
  simp only [ordAll, Bool.and_eq_true] at h
  exact fun x hx y hy => List.all_eq_true.mp (List.all_eq_true.mp h.1.2 x hx) y hy
theorem ord_fit {ds : List D} (h : ordAll ds = true) : ∀ x ∈ ds, fitT x = true := by
  simp only [ordAll, Bool.and_eq_true] at h
  exact List.all_eq_true.mp h.1.1
theorem ord_sub {ds es : List D} (h : ordAll ds = true) (hs : ∀ e ∈ es, e ∈ ds) : ordAll es = true := by
  have h1 := ord_all h
  have h2 := ord_fit h
  simp only [ordAll, Bool.and_eq_true] at h ⊢
  refine ⟨⟨List.all_eq_true.mpr fun x hx => h2 x (hs x hx), List.all_eq_true.mpr fun x hx => List.all_eq_true.mpr fun y hy => h1 x (hs x hx) y (hs y hy)⟩, ?_⟩
  have h3 := h.2
  unfold sortB at h3 ⊢
  rw [Bool.or_eq_true] at h3 ⊢
  exact h3.imp (fun h => List.all_eq_true.mpr fun x hx => List.all_eq_true.mp h x (hs x hx)) fun h => List.all_eq_true.mpr fun x hx => List.all_eq_true.mp h x (hs x hx)
/-- sorted is sorted -/
theorem sort_perm {ds es : List D} (h : ordAll ds = true) (p : es.Perm ds) : sortT es = sortT ds := by
  have he := ord_sub h fun e m => p.mem_iff.mp m
  have T : PySem.W.TotalLe (PySem.W.dataLe (β := D) false pyT) := PySem.W.sortLe_total _ _ _
  rw [← sort_eq he, ← sort_eq h]
  have p1 : (es.mergeSort (PySem.W.dataLe false pyT)).Perm (ds.mergeSort (PySem.W.dataLe false pyT)) := ((List.mergeSort_perm es _).trans p).trans (List.mergeSort_perm ds _).symm
  refine List.Perm.eq_of_pairwise (le := fun a b => PySem.W.dataLe false pyT a b = true) (fun a b ha hb k1 k2 => ?_) (PySem.W.sort_pairwise T es) (PySem.W.sort_pairwise T ds) p1
  have ma : a ∈ ds := p.mem_iff.mp ((List.mergeSort_perm es _).mem_iff.mp ha)
  have mb : b ∈ ds := (List.mergeSort_perm ds _).mem_iff.mp hb
  have oab := ord_all h a ma b mb
  have oba := ord_all h b mb a ma
  have ka := (fit_lay (ord_fit h a ma)).1
  have kb := (fit_lay (ord_fit h b mb)).1
  rw [PySem.W.dataLe_eq] at k1 k2
  simp only [cond_false, Bool.not_eq_true'] at k1 k2
  rw [lt_py b a oba kb ka] at k1
  rw [lt_py a b oab ka kb] at k2
  exact lt_none a b oab k2 k1
theorem dedup_perm {ds es : List D} (h : ordAll ds = true) (hs : ∀ e ∈ es, e ∈ ds) (ha : ∀ d ∈ ds, d ∈ es) (nd : es.Nodup) : es.Perm (dedupT ds) :=
  (List.perm_ext_iff_of_nodup nd (dedup_nodup (ord_all h))).mpr fun d => ⟨fun m => dedup_mem (ord_all h) (hs d m), fun m => ha d (dedup_sub m)⟩
end FT
end

section
set_option Elab.async false
set_option linter.all false
set_option maxRecDepth 100000
set_option autoImplicit false
/-! FT.SetG: sorted(set(xs)), len(set(xs)). -/
namespace FT
open PySem L2 LamX PyProof.Rows

section
variable {X : L2.Cx} {pins : List (Addr × Obj)} {σ : L2.St} {H : Hp} {s : Shared} {c : Cfg} {g : G} {S : Store}
def notTu : D → Bool
  | .tup _ => false
  | _ => true
theorem scan_d {d : D} {v : V} {u : Value} (q : Rep c g d v) (ru : RelV v u) (h : hshT d = true) : u.scannable = notTu d := by
  cases q <;> first | (cases ru; rfl) | (obtain ⟨t, rfl⟩ := ru; rfl) | simp [hshT] at h
theorem one_sort {ds : List D} (h : sortB ds = true) : ∃ sc, ∀ d ∈ ds, notTu d = sc := by
  unfold sortB at h
  rw [Bool.or_eq_true] at h
  rcases h with h | h
  · refine ⟨false, fun d hd => ?_⟩
    have := List.all_eq_true.mp h d hd
    cases d <;> simp_all [notTu]
  · refine ⟨true, fun d hd => ?_⟩
    have := List.all_eq_true.mp h d hd
    cases d <;> simp_all [notTu]
mutual
theorem reads_lt {h : Heap} : ∀ {v : Value} {d : PyData} {as : List Addr}, Reads h v d as → ∀ a ∈ as, a < h.objs.size
  | _, _, _, .none, a, m => by cases m
  | _, _, _, .bool _, a, m => by cases m
  | _, _, _, .int _ _, a, m => by cases m
  | _, _, _, .str _ _, a, m => by cases m
  | _, _, _, .list h1 _ _ h4, a, m => by
    rcases List.mem_cons.mp m with e | m
    · rw [e]; exact Heap.lt_size h1
    · exact reads_lts h4 a m
  | _, _, _, .tuple _ _ _ h4, a, m => reads_lts h4 a m
  | _, _, _, .dict h1 _ _ h4 h5, a, m => by
    rcases List.mem_append.mp m with m | m
    · rcases List.mem_cons.mp m with e | m
      · rw [e]; exact Heap.lt_size h1
      · exact reads_lts h4 a m
    · exact reads_lts h5 a m
theorem reads_lts {h : Heap} : ∀ {vs : List Value} {ds : List PyData} {as : List Addr}, ReadsAll h vs ds as → ∀ a ∈ as, a < h.objs.size
  | _, _, _, .nil, a, m => by cases m
  | _, _, _, .cons h1 h2, a, m => by
    rcases List.mem_append.mp m with m | m
    · exact reads_lt h1 a m
    · exact reads_lts h2 a m
end
/-- what stands for a datum -/
abbrev Std (c : Cfg) (g : G) (u : Value) (d : D) : Prop := ∃ v, RelV v u ∧ Rep c g d v
theorem rows_std {us : List Value} {ds : List D} (e : PySem.W.EachIs (Std c g) us ds) {L : List Row} (h : ∀ p ∈ L, p ∈ us.zip (ds.map keyT)) : ∃ bs, PySem.W.EachIs (Std c g) (L.map Prod.fst) bs ∧ bs.map keyT = L.map Prod.snd ∧ ∀ b ∈ bs, b ∈ ds := by
  induction L with
  | nil => exact ⟨[], .nil, rfl, fun b hb => by cases hb⟩
  | cons p L ih =>
    obtain ⟨bs, h1, h2, h3⟩ := ih fun q hq => h q (.tail _ hq)
    have hp := h p (.head _)
    rw [List.zip_map_right] at hp
    obtain ⟨z, hz, e2⟩ := List.mem_map.mp hp
    have hr := e.zip z hz
    subst e2
    refine ⟨z.2 :: bs, .cons hr h1, ?_, fun b hb => ?_⟩
    · rw [List.map_cons, List.map_cons, h2]
      rfl
    · rcases List.mem_cons.mp hb with e3 | hb
      · rw [e3]; exact (List.of_mem_zip hz).2
      · exact h3 b hb
theorem each_perm {α β : Type} {R : α → β → Prop} {as as' : List α} (p : as.Perm as') : ∀ {bs : List β}, PySem.W.EachIs R as bs → ∃ bs', bs'.Perm bs ∧ PySem.W.EachIs R as' bs' := by
  induction p with
  | nil => exact fun e => ⟨_, .refl _, e⟩
  | cons x _ ih =>
    intro bs e
    cases e with
    | cons h t =>
      obtain ⟨bs', h1, h2⟩ := ih t
      exact ⟨_, h1.cons _, .cons h h2⟩
  | swap x y l =>
    intro bs e
    cases e with
    | cons h t =>
      cases t with
      | cons h2 t2 => exact ⟨_, .swap _ _ _, .cons h2 (.cons h t2)⟩
  | trans _ _ ih1 ih2 =>
    intro bs e
    obtain ⟨b1, h1, h2⟩ := ih1 e
    obtain ⟨b2, k1, k2⟩ := ih2 h2
    exact ⟨b2, k1.trans h1, k2⟩
/-- set(xs): the state behind -/
theorem set_step {x : V} {u : Value} {d : D} {ys : List D} {Q : Value → Shared → Prop} {E : Value → Shared → Prop} (I : Inv X pins σ H s) (hK : X.K = c.K) (calm : X.calm = true) (hu : X.A.units + 130 < cLine) (r : RelS c g S H) (q : Rep c g d x) (rx : RelV x u) (hs : seqD S d = some ys) (ho : ordAll ys = true) (hb : setB ys = true)
    (fin : ∀ (s2 : Shared) (a : Addr) (sc : Bool) L es ep t bs, Inv X pins σ H s2 → Bag X.w sc s2.heap a L es ep t → PySem.W.EachIs (Std c g) (L.map Prod.fst) bs → (∀ b ∈ bs, b ∈ ys) → bs.Perm (dedupT ys) → Q (.ref a) s2) :
    wpAny (model X.prog X.w) X.A (call (.type "set") [u]) Q E s := by
  obtain ⟨p, vs, rfl, ra, ta⟩ := rep_seq r q hs
  cases rx
  have hb' := hb
  unfold setB at hb'
  rw [Bool.and_eq_true] at hb'
  obtain ⟨hall, hlen⟩ := hb'
  have hsh : ∀ y ∈ ys, hshT y = true ∧ depT y ≤ 8 := fun y hy => by simpa using List.all_eq_true.mp hall y hy
  have hlen : ys.length < 64 := by simpa using hlen
  obtain ⟨sc, hsc⟩ := one_sort (ds := ys) (by simp only [ordAll, Bool.and_eq_true] at ho; exact ho.2)
  have go : ∀ us : List Value, Vals vs us → (∀ p ∈ us.zip (ys.map keyT), NestedIs s.heap p.2 p.1 ∧ p.2.depth ≤ 8 ∧ p.1.scannable = sc) ∧ us = (us.zip (ys.map keyT)).map Prod.fst ∧ (us.zip (ys.map keyT)).length < 64 ∧
      ∀ (h' : Heap) (tk : Nat) L es ep t, Bag X.w sc h' s.heap.objs.size L es ep t → Had (us.zip (ys.map keyT)) (us.zip (ys.map keyT)).length L → (∀ b o, s.heap.get? b = some o → h'.get? b = some o) → Q (.ref s.heap.objs.size) { s with heap := h', toks := tk } := by
    intro us rv
    have e := each_rep ra rv
    have hl : us.length = ys.length := e.length
    refine ⟨fun p hp => ?_, by rw [List.map_fst_zip (by rw [List.length_map]; omega)], by rw [List.length_zip, List.length_map]; omega, fun h' tk L es ep t B g2 k => ?_⟩
    · rw [List.zip_map_right] at hp
      obtain ⟨z, hz, e2⟩ := List.mem_map.mp hp
      obtain ⟨v, h1, h2⟩ := e.zip z hz
      have hm := (List.of_mem_zip hz).2
      subst e2
      exact ⟨nest_d I hK r _ _ _ h2 h1 (hsh _ hm).1, Nat.le_trans (dep_key _) (hsh _ hm).2, (scan_d h2 h1 (hsh _ hm).1).trans (hsc _ hm)⟩
    · obtain ⟨bs, b1, b2, b3⟩ := rows_std (L := L) e fun p hp => List.mem_of_mem_take (g2.sub p hp)
      have nd : bs.Nodup := nodup_of_map (f := keyT) (by rw [b2]; exact B.nd)
      refine fin _ _ sc L es ep t bs (I.kept (t' := tk) k) B b1 b3 (dedup_perm ho b3 (fun y hy => ?_) nd)
      obtain ⟨i, hi⟩ := List.getElem?_of_mem hy
      have hiu : i < us.length := by rw [hl]; exact (List.getElem?_eq_some_iff.mp hi).1
      have hz : (us[i], keyT y) ∈ us.zip (ys.map keyT) := by
        refine List.mem_of_getElem? (i := i) ?_
        rw [List.getElem?_zip_eq_some]
        exact ⟨List.getElem?_eq_getElem hiu, by rw [List.getElem?_map, hi]; rfl⟩
      have hk := g2.all _ (by rw [List.take_length]; exact hz)
      rw [← b2] at hk
      obtain ⟨b, hb1, hb2⟩ := List.mem_map.mp hk
      have e3 := key_inj b y (ord_all ho b (b3 b hb1) y hy) (hsh b (b3 b hb1)).1 (hsh y hy).1 hb2
      rw [← e3]
      exact hb1
  rcases ta with ta | ta
  · obtain ⟨us, rv, pl, _⟩ := I.list (by rw [hK]; exact ta)
    obtain ⟨k1, k2, k3, k4⟩ := go us rv
    exact set_list (us.zip (ys.map keyT)) (I.ok.hd calm) pl.isList (by simpa using k2) k1 k3 (by omega) k4
  · obtain ⟨us, rv, ⟨o, h1, h2, n, h3⟩, _⟩ := I.tuple (by rw [hK]; exact ta)
    obtain ⟨k1, k2, k3, k4⟩ := go us rv
    exact set_tuple (us.zip (ys.map keyT)) (I.ok.hd calm) ⟨o, h1, h2, n, h3⟩ (by simpa using k2) k1 k3 (by omega) k4
/-- sorted of such a set -/
theorem sorted_step {a : Addr} {sc : Bool} {L : List Row} {es : Array (Int × Value)} {ep : Nat} {t : SetTable} {ys bs : List D} {live : Bool} {Q : VK} {E : Value → Shared → Prop} (I : Inv X pins σ H s) (hK : X.K = c.K) (calm : X.calm = true) (hu : X.A.units + 130 < cLine) (r : RelS c g S H)
    (B : Bag X.w sc s.heap a L es ep t) (e : PySem.W.EachIs (Std c g) (L.map Prod.fst) bs) (hsub : ∀ b ∈ bs, b ∈ ys) (pm : bs.Perm (dedupT ys)) (ho : ordAll ys = true) (w : Wants c g Q (newL live (sortT (dedupT ys)) S)) :
    wpAny (model X.prog X.w) X.A (call (.builtin "sorted") [.ref a]) (fun u s' => ∃ v H', Inv X pins σ H' s' ∧ RelV v u ∧ Q v H') E s := by
  obtain ⟨o, h1, hex, hd⟩ := B.ob
  have hz := B.size
  have hfew := B.few
  obtain ⟨hzl, gt⟩ := w.gets r
  refine Calls.call_function_entry kind_sorted plain_sorted entry_sorted (args_sorted1 _) ?_
  unfold Builtin.«sorted»
  refine wpAny_bind (m := checkCount "sorted" 1 1 _) (wpAny_pure ?_)
  refine wpAny_bind (collect_set (A := X.A.in1) (I.ok.hd calm) ⟨o, h1, hex.1, hd⟩ B.fits (by unfold scanBound; omega) B.tab.ris B.led fun s1 us k1 z1 g1 o1 pv => ?_)
  have hv : es.toList.map (·.2) = L.map Prod.fst := by
    rw [B.rows, List.map_map]
    rfl
  rw [hv] at pv
  obtain ⟨bs', p1, e1⟩ := each_perm pv.symm e
  have es' : s1 = { s with heap := s1.heap, gens := s1.gens, drawn := s1.drawn, toks := s1.toks } := by
    cases s1
    cases s
    cases o1
    rfl
  have I1 : Inv X pins σ H s1 := by
    rw [es']
    exact I.call (ch := []) (Un.kept k1) (I.hok.kept k1) (by rw [g1]; exact I.bare) (fun _ z => nomatch z)
  have ho1 : ordAll bs' = true := ord_sub ho fun b hb => hsub b (p1.mem_iff.mp hb)
  have hbl : bs'.length < 64 := by
    rw [← e1.length, pv.length_eq, List.length_map]
    exact hfew
  have hul : us.length = bs'.length := e1.length
  refine wpAny_bind (wpAny_newList ?_ (by rw [sizeLine_eq]; omega))
  have hoL : (s1.heap.push (seqObj "list" us.toArray 0)).get? s1.heap.objs.size = some (seqObj "list" us.toArray 0) := Heap.get?_push_size _ rfl
  have I2 : Inv X pins σ H { s1 with heap := s1.heap.push (seqObj "list" us.toArray 0) } := I1.kept (t' := s1.toks) fun b u q => Heap.get?_push_of_some _ q
  have ho' := ho1
  simp only [ordAll, Bool.and_eq_true] at ho'
  have hal : PySem.W.AllAlike (bs'.map pyT) := fun x hx y hy => by
    obtain ⟨d1, m1, rfl⟩ := List.mem_map.mp hx
    obtain ⟨d2, m2, rfl⟩ := List.mem_map.mp hy
    exact alike_py d1 d2 (ord_all ho1 d1 m1 d2 m2)
  have er := each_reads I1 hK r e1 ho'.1.1
  have er2 : PySem.W.EachIs (fun v b => ∃ as, Reads (s1.heap.push (seqObj "list" us.toArray 0)) v (pyT b) as ∧ s1.heap.objs.size ∉ as) us bs' := er.mono fun v b ⟨as, q⟩ => ⟨as, Reads.keeps (fun b u q => Heap.get?_push_of_some _ q) q, fun m => absurd (reads_lt q _ m) (Nat.lt_irrefl _)⟩
  refine wpAny_bind (wpAny_holding (PySem.W.list_sort_data (s := { s1 with heap := s1.heap.push (seqObj "list" us.toArray 0) }) (enc := pyT) hoL e1 er2 hal (sortable_of ho'.1.1 ho'.2) (by rw [sizeLine_eq]; omega) (fun b hb => ?_) fun out q1 q2 => ?_))
  · have := (fit_lay (ord_fit ho1 b hb)).2.2.2
    simp only [Around.in1_units]
    omega
  · have hod : ordAll (dedupT ys) = true := ord_sub ho fun b hb => dedup_sub hb
    rw [sort_eq ho1, sort_perm hod (p1.trans pm)] at q2
    obtain ⟨vs', r1, r2⟩ := rep_each q2
    have hlen : vs'.length ≤ sizeLine := by rw [← r2.length]; exact hzl
    obtain ⟨n, hn⟩ := sortedHeap_at (vs := us) (out := out.toArray) hoL
    refine wpAny_pure ⟨_, rfl, .ref _, upd H s1.heap.objs.size (.lst vs'), I1.laid (t' := s1.toks) (fun b u e2 => ?_) (Nat.le_refl _) ⟨hlen, out, n, r1, hn⟩, rfl, gt.list r r2 _ (I1.hok.fresh (Nat.le_refl _))⟩
    have hlt := Heap.lt_size e2
    rw [sortedHeap_old (Nat.ne_of_lt hlt) (by rw [size_push']; exact Nat.lt_succ_of_lt hlt)]
    exact Heap.get?_push_of_some _ e2
/-- the readings of the two -/
def tSS (c : Cfg) (b : B) (live : Bool) (ta : TE) : TE := fun σ H Q => ta σ H fun x H1 => ∃ d S g, RelS c g S H1 ∧ Rep c g d x ∧ Wants c g Q (callBD b live [d] S)
section
variable {a : Expr} {ta : TE} {p p2 q pos : Pos} {live : Bool} (hK : X.K = c.K) (calm : X.calm = true) (hu : X.A.units + 130 < cLine) (hg2 : Gl X "set") (hm2 : X.mg "set" = none) (ha : PE X a ta) (na : starEach [a] X.env = (false, eval a X.env) :: starEach [] X.env)
include hK calm hu hg2 hm2 ha na
theorem pe_sortedSet (hg : Gl X "sorted") (hm : X.mg "sorted" = none) : PE X (.Call (.Name "sorted" p) [.Call (.Name "set" p2) [a] [] q] [] pos) (tSS c .sortedSet live ta) := by
  refine ⟨fun pins s σ H Q I hh => ?_⟩
  refine Call_ (ld_blt I hg hm (u := .builtin "sorted") (by decide +kernel) ?_)
  refine PyProof.Rows.callWith_builtin1 (PyProof.Rows.args_cons ?_ rfl) rfl rfl
  refine Call_ (ld_blt I hg2 hm2 (u := .type "set") (by decide +kernel) ?_)
  refine PyProof.Rows.callWith_type1 (PyProof.Rows.args_cons (thn (ha.run pins s σ H _ I hh) fun u s1 ⟨x, H1, I1, r1, q1⟩ => PyProof.Rows.args_nil ?_) na) na rfl
  obtain ⟨d, S, g, r, qd, w⟩ := q1
  unfold callBD at w
  dsimp only at w
  split at w
  · rename_i ys hs
    split at w
    · rename_i ho
      rw [Bool.and_eq_true] at ho
      refine set_step I1 hK calm hu r qd r1 hs ho.1 ho.2 fun s2 a sc L es ep t bs I2 B e sub pm => PyProof.Rows.args_nil ?_
      exact sorted_step I2 hK calm hu r B e sub pm ho.1 w
    · exact w.elim
  · exact w.elim
theorem pe_lenSet (hg : Gl X "len") (hm : X.mg "len" = none) : PE X (.Call (.Name "len" p) [.Call (.Name "set" p2) [a] [] q] [] pos) (tSS c .lenSet live ta) := by
  refine ⟨fun pins s σ H Q I hh => ?_⟩
  refine Call_ (ld_blt I hg hm (u := .builtin "len") (by decide +kernel) ?_)
  refine PyProof.Rows.callWith_builtin1 (PyProof.Rows.args_cons ?_ rfl) rfl rfl
  refine Call_ (ld_blt I hg2 hm2 (u := .type "set") (by decide +kernel) ?_)
  refine PyProof.Rows.callWith_type1 (PyProof.Rows.args_cons (thn (ha.run pins s σ H _ I hh) fun u s1 ⟨x, H1, I1, r1, q1⟩ => PyProof.Rows.args_nil ?_) na) na rfl
  obtain ⟨d, S, g, r, qd, w⟩ := q1
  unfold callBD at w
  dsimp only at w
  split at w
  · rename_i ys hs
    split at w
    · rename_i ho
      rw [Bool.and_eq_true] at ho
      refine set_step I1 hK calm hu r qd r1 hs ho.1 ho.2 fun s2 a sc L es ep t bs I2 B e sub pm => PyProof.Rows.args_nil ?_
      obtain ⟨o, h1, hex, hd⟩ := B.ob
      have hl : es.size = (dedupT ys).length := by
        rw [B.size, ← pm.length_eq, ← e.length, List.length_map]
      have hfew := B.few
      have hz := B.size
      refine call_len_set h1 hex hd B.fits (by omega) ⟨.int es.size, H1, I2.tok _, ⟨_, rfl⟩, ?_⟩
      rw [hl]
      exact w.flat r (.int _)
    · exact w.elim
  · exact w.elim
end
end
end FT
end

section
set_option Elab.async false
set_option linter.all false
set_option maxRecDepth 100000
set_option autoImplicit false
/-! FT.Mast0: what a context gives; rules for values, ready for the evaluator. -/
namespace FT
open PySem L2 LamX PyProof.Rows

structure Okx (c : Cfg) (k : Nat) (M : Mc) (W : WX) (X : L2.Cx) : Prop where
  O : OverC c X
  room : Room k X.A
  gd : X.A.guards = some []
  calm : X.calm = true
  N : X.N = M.N
  nd : M.N.Nodup
  sc : X.env.scope = M.sc
  fn : ∀ x, M.rs.names.lookup x = some .cell → X.fn x = true
  tk : Takes X W
  po : PassesOwn (model X.prog X.w) X.A X.env X.xe
  tb : M.lm = true → ∃ cc P, X.env.code = .ref cc ∧ TabB X.base X.mg cc P ∧ (P, X.env.qual ++ "<lambda>") ∈ c.tbl ∧ ∀ p ∈ c.tbl, p.1 = P → p.2 = X.env.qual ++ "<lambda>"
/-- an expression is sound: as a value, and as a test -/
def Snd (c : Cfg) (k : Nat) (C : Cx) (e : E) : Prop := ∀ (M : Mc) (W : WX) (X : L2.Cx) (x : Expr), mtE M e x = true → Okx c k M W X → PE X x (tE c W (ev C e)) ∧ PT X x (tT c W fun ρ S => testR (ev C e ρ S))
def bltNames : List Str := ["len", "repr", "all", "any", "int", "str", "tuple", "list", "sorted", "set", "min", "max", "dict", "isinstance", "range", "enumerate", "zip", "bool", "ValueError"]
structure GlobOk (c : Cfg) (x : Str) (d : D) : Prop where
  ex : ∃ u v, c.mg x = some u ∧ RelV v u ∧ (∀ g, Rep c g d v) ∧ ∀ ys, d = .tup ys → ∃ p o, v = .ref p ∧ c.K.lookup p = some o ∧ o.cls = .type "tuple" ∧ o.dict = none
/-- a def's promise: what sem answers -/
def spC (c : Cfg) (sem : List D → Store → R D) : Sp := fun vs H Q E => ∃ ds S g, RelS c g S H ∧ RepAll c g ds vs ∧ wR c (fun cls dx _ H => E cls dx H) [] g (fun d _ H' g' => ∀ v, Rep c g' d v → Q v H') (sem ds S)
structure DefOk (c : Cfg) (k : Nat) (f : Str) (sem : List D → Store → R D) : Prop where
  ex : ∃ a fd ps, c.mg f = some (.ref a) ∧ PySem.W.keepIn c.K (.ref a) = true ∧ FnG c k a fd ps (spC c sem) ∧ Binds c.K fd ps []
/-- the class whose __init__ is its own -/
structure ParOk (c : Cfg) (C : Addr) : Prop where
  ex : ∃ fI, ParK c.P c.K C fI ∧ OexC c.K C ∧ PySem.W.findIn c.K (.ref C) "line" = some none ∧ PySem.W.findIn c.K (.ref C) "__init__" = some (some (.ref fI)) ∧ PySem.W.typeIn c.K (.ref fI) = some (.type "function") ∧ XfC c.K C ∧
    (∀ (s : Shared) (a : Addr) (i : Int) (tk : Tok) fd oc od osl, c.K.lookup fI = some ⟨oc, od, .func fd, osl⟩ → BindsTo s fd ⟨[.ref a, .int i tk], []⟩ [("self", .ref a), ("line", .int i tk)]) ∧
    (∀ (s : Shared) (a : Addr) (i : Int) (tk : Tok) fd oc od osl, c.K.lookup fI = some ⟨oc, od, .func fd, osl⟩ → BindsTo s fd ⟨[.ref a], [("line", .int i tk)]⟩ [("self", .ref a), ("line", .int i tk)])
structure ExcOk (c : Cfg) (x : Str) : Prop where
  cl : ∃ C, c.mg x = some (.ref C)
  mak : isPE x = false → ∀ C, c.mg x = some (.ref C) → PySem.W.excIn c.K C [.type "ValueError", .type "Exception", .type "BaseException", .type "object"] "ValueError.__new__" = true ∧ PySem.W.keepIn c.K (.ref C) = true ∧
    PySem.W.subIn c.K (.ref C) (.type "BaseException") = some true ∧ PySem.W.typeIn c.K (.ref C) = some (.type "type")
  pm : isPE x = true → ∀ C, c.mg x = some (.ref C) → ParOk c C
  isc : ∀ C, c.mg x = some (.ref C) → ExcC c.K C
  ve : ∀ C, c.mg x = some (.ref C) → PySem.W.kitOne c.K (.ref C) (.type "ValueError") = some true
  sup : ∀ C, c.mg x = some (.ref C) → ∃ F, c.mg "FlushError" = some (.ref F) ∧ PySem.W.exmOne c.K (.ref C) (.ref F) = some true
structure CxOk (c : Cfg) (k : Nat) (C : Cx) : Prop where
  blt : ∀ x ∈ bltNames, c.mg x = none
  glob : ∀ x d, C.glob x = some d → GlobOk c x d
  call : ∀ f h, C.call f = some h → DefOk c k f h
  exc : ∀ x, C.exc x = true → ExcOk c x
  pair : ∀ x y Cx Cy, C.exc x = true → C.exc y = true → c.mg x = some (.ref Cx) → c.mg y = some (.ref Cy) → PySem.W.kitOne c.K (.ref Cx) (.ref Cy) = some (x == y || y == ("FlushError" : Str))
  lam : ∀ f b, Snd c k C (.callL f b)

section
variable {X : L2.Cx} {c : Cfg} {k : Nat} {M : Mc} {W : WX} {C : Cx} {x : Str}
theorem Okx.gl (h : Okx c k M W X) (e : glB M x = true) : Gl X x := by
  show X.env.scope.names.lookup x = _
  rw [h.sc]; exact glob_of e
theorem Okx.vis (h : Okx c k M W X) (e : visB M x = true) : Vis X.env.scope x := by rw [h.sc]; exact vis_of e
theorem Okx.loc (h : Okx c k M W X) (e : locB M x = true) : Loc X.env.scope x := by
  rw [h.sc]
  rcases loc_of e with e | e
  · exact .inl e
  · exact .inr e.1
theorem Okx.sto (h : Okx c k M W X) (e : locB M x = true) : X.fn x = true ∨ X.env.scope.names.lookup x = some .local := by
  rcases loc_of e with e | e
  · exact .inr (by rw [h.sc]; exact e)
  · exact .inl (h.fn x e.2)
theorem Okx.ix (h : Okx c k M W X) {i : Nat} (e : (M.N[i]? == some x) = true) : X.N[i]? = some x := by
  rw [h.N]; exact eq_of_beq e
theorem Okx.un (h : Okx c k M W X) : X.A.units + 130 < cLine := by have := h.room.un; omega
theorem Okx.mgN (h : Okx c k M W X) (hC : CxOk c k C) (e : x ∈ bltNames) : X.mg x = none := by rw [h.O.mg]; exact hC.blt x e
theorem Okx.ndX (h : Okx c k M W X) : X.N.Nodup := by rw [h.N]; exact h.nd
/-- a comprehension's block -/
def WF : WX := fun _ _ _ _ => False
theorem Okx.blk (h : Okx c k M W X) (s : Shared) (H : Hp) (scope : Scope) (C : Addr) (cl : List (Str × Addr)) (fp : List Addr) : Okx c k (inner M scope) WF (X.blk s H scope (compEnvC scope cl C X.env) fp) where
  O := ⟨h.O.P, h.O.w, h.O.K, h.O.mg, h.O.base⟩
  room := h.room
  gd := h.gd
  calm := h.calm
  N := h.N
  nd := h.nd
  sc := by
    show relS scope X.env.scope = _
    rw [h.sc]; rfl
  fn := fun x e => by
    show (scope.names.lookup x == some .cell) = true
    have e : scope.names.lookup x = some .cell := e
    rw [e]; rfl
  tk := fun u s' ⟨_, _, _, _, _, _, _, _, _, _, _, _, _, _, _, _, w⟩ => w.elim
  po := PassesOwn.never
  tb := h.tb
end

/-! ### readings -/
section
variable {X : L2.Cx} {c : Cfg} {k : Nat} {M : Mc} {W : WX} {C : Cx} {ρ : Env} {S : Store} {g : G} {σ : L2.St} {H : Hp} {f : Env → Store → R D}
theorem tE_mk {Q : VK} {K : D → Store → Hp → G → Prop} (re : RelE c g ρ σ) (rs : RelS c g S H) (w : wR c W σ g K (f ρ S)) (h : ∀ d S' H' g', g.le g' → RelS c g' S' H' → K d S' H' g' → ∀ v, Rep c g' d v → Q v H') : tE c W f σ H Q :=
  ⟨ρ, S, g, re, rs, w.imp h⟩
theorem tT_mk {f : Env → Store → R Bool} {Q : Bool → Hp → Prop} {K : Bool → Store → Hp → G → Prop} (re : RelE c g ρ σ) (rs : RelS c g S H) (w : wR c W σ g K (f ρ S)) (h : ∀ d S' H' g', g.le g' → RelS c g' S' H' → K d S' H' g' → Q d H') : tT c W f σ H Q :=
  ⟨ρ, S, g, re, rs, w.imp h⟩
theorem tA_mk {f : Env → Store → R (List D)} {Q : List V → Hp → Prop} {K : List D → Store → Hp → G → Prop} (re : RelE c g ρ σ) (rs : RelS c g S H) (w : wR c W σ g K (f ρ S)) (h : ∀ d S' H' g', g.le g' → RelS c g' S' H' → K d S' H' g' → ∀ v, RepAll c g' d v → Q v H') : tA c W f σ H Q :=
  ⟨ρ, S, g, re, rs, w.imp h⟩
theorem nex_ofO {α : Type} {o : Option α} {S S' : Store} {d : D} : R.ofO o S ≠ .ex d S' := by cases o <;> simp [R.ofO]
theorem nex_newL {live : Bool} {xs : List D} {S S' : Store} {d : D} : newL live xs S ≠ .ex d S' := by
  unfold newL alloc
  split
  · split <;> simp
  · simp
theorem wants_of {r : R D} {Q : VK} (hn : ∀ d S', r ≠ .ex d S') (w : wR c W σ g (fun d _ H' g' => ∀ v, Rep c g' d v → Q v H') r) : Wants c g Q r := by
  cases r with
  | ok d S' => exact fun v H' g' l s q => w H' g' l s v q
  | ex d S' => exact (hn d S' rfl).elim
  | bad => exact w
/-- the end of an expression whose value is made of one list or is live -/
theorem gets_of {o : Option D} {live : Bool} {Q : VK} (rs : RelS c g S H) (w : wR c W σ g (fun d _ H' g' => ∀ v, Rep c g' d v → Q v H') ((R.ofO o S).bind fun d S => liven live d S)) : ∃ d, o = some d ∧ Gets c g S H live Q d := by
  cases o with
  | none => exact w.elim
  | some d =>
    refine ⟨d, rfl, ?_⟩
    simp only [R.ofO_some, R.bind_ok, liven] at w
    cases live with
    | false => exact fun v H' g' l s q => w H' g' l s v q
    | true =>
      cases d with
      | lst xs => exact ⟨xs, rfl, fun p vs hp q => w _ (g.new p) G.le_new (rs.alloc hp q) _ (.obj (G.new_at rs))⟩
      | _ => exact w.elim

/-! ### built-ins -/
def bVal : B → Value
  | .len => .builtin "len" | .repr => .builtin "repr" | .all => .builtin "all" | .any => .builtin "any" | .int => .type "int" | .tuple => .type "tuple" | .list => .type "list" | .min2 => .builtin "min" | .sorted => .builtin "sorted"
  | _ => .builtin "isinstance"
def rB (c : Cfg) (b : B) (live : Bool) : List V → Hp → VK → Prop := fun xs H Q => ∃ ds S g, RelS c g S H ∧ RepAll c g ds xs ∧ Wants c g Q (callBD b live ds S)
theorem boot_B (b : B) (h : bPlain b = true) : bootBuiltins (bName b) = some (bVal b) := by
  cases b <;> first | (cases h; done) | decide +kernel
theorem blt_B (b : B) (h : bPlain b = true) : bName b ∈ bltNames := by
  cases b <;> first | (cases h; done) | decide +kernel
theorem nex_B {b : B} {live : Bool} {ds : List D} {S S' : Store} {d : D} : callBD b live ds S ≠ .ex d S' := by
  unfold callBD
  split <;> first | exact nex_ofO | exact nex_newL | (split <;> first | exact nex_newL | exact nex_ofO | (split <;> first | exact nex_newL | simp) | simp) | simp
section
variable (h : Okx c k M W X)
include h
theorem call_B (b : B) (live : Bool) (hb : bPlain b = true) : CallR X (bVal b) (rB c b live) := by
  have hK := h.O.K
  have hu := h.un
  intro pins s σ H xs us Q I rv hh
  obtain ⟨ds, S, g, r, q, w⟩ := hh
  cases b with
  | len =>
    match ds, q, w with
    | [d], .cons q .nil, w =>
      obtain ⟨d', e, w⟩ := w.ofO
      obtain ⟨n, e1, e2⟩ := Option.map_eq_some_iff.mp e
      subst e2
      exact call_lenD hK pins s σ H _ us Q I rv ⟨d, _, S, g, n, rfl, r, q, e1, w.flat r (.int _)⟩
  | repr =>
    match ds, q, w with
    | [d], .cons q .nil, w =>
      obtain ⟨d', e, w⟩ := w.ofO
      obtain ⟨n, e1, e2⟩ := Option.map_eq_some_iff.mp e
      subst e2
      exact call_reprD hK hu h.gd pins s σ H _ us Q I rv ⟨d, _, S, g, n, rfl, r, q, e1, w.flat r (.str _)⟩
  | all =>
    match ds, q, w with
    | [d], .cons q .nil, w =>
      obtain ⟨d', e, w⟩ := w.ofO
      obtain ⟨n, e1, e2⟩ := Option.map_eq_some_iff.mp e
      obtain ⟨ys, e3, e4⟩ := Option.bind_eq_some_iff.mp e1
      subst e2
      exact call_allD hK h.calm pins s σ H _ us Q I rv ⟨d, _, S, g, ys, n, rfl, r, q, e3, e4, w.flat r (.bl _)⟩
  | any =>
    match ds, q, w with
    | [d], .cons q .nil, w =>
      obtain ⟨d', e, w⟩ := w.ofO
      obtain ⟨n, e1, e2⟩ := Option.map_eq_some_iff.mp e
      obtain ⟨ys, e3, e4⟩ := Option.bind_eq_some_iff.mp e1
      subst e2
      exact call_anyD hK h.calm pins s σ H _ us Q I rv ⟨d, _, S, g, ys, n, rfl, r, q, e3, e4, w.flat r (.bl _)⟩
  | int =>
    match ds, q, w with
    | [d], .cons q .nil, w => exact call_intD pins s σ H _ us Q I rv ⟨live, d, _, S, g, rfl, r, q, w⟩
  | tuple =>
    match ds, q, w with
    | [d], .cons q .nil, w => exact call_tupleD pins s σ H _ us Q I rv ⟨hK, live, d, _, S, g, rfl, r, q, w⟩
  | list =>
    match ds, q, w with
    | [d], .cons q .nil, w => exact call_listD pins s σ H _ us Q I rv ⟨hK, live, d, _, S, g, rfl, r, q, w⟩
  | sorted =>
    match ds, q, w with
    | [d], .cons q .nil, w => exact call_sortedD hK hu pins s σ H _ us Q I rv ⟨live, d, _, S, g, rfl, r, q, w⟩
  | min2 =>
    match ds, q, w with
    | [d, e], .cons q (.cons q' .nil), w => exact call_min2D h.calm pins s σ H _ us Q I rv ⟨live, d, _, e, _, S, g, rfl, r, q, q', w⟩
  | _ => cases hb
/-! ### methods of lists -/
def mId : FT.M → String
  | .count => "list.count" | .index => "list.index" | .append => "list.append" | .extend => "list.extend" | .get => "dict.get" | _ => "list.pop"
def mLst (m : FT.M) : Bool := mPlain m && !(m == .get)
def rM (c : Cfg) (m : FT.M) : V → List V → Hp → VK → Prop := fun x xs H Q => ∃ o ds S g, RelS c g S H ∧ Rep c g o x ∧ RepAll c g ds xs ∧ Wants c g Q (methD m o ds S)
theorem slot_M (m : FT.M) (h : mLst m = true) : Slot "list" (mName m) (mId m) := by
  cases m with
  | count => exact PySem.F.slot_list_count
  | index => exact PySem.F.slot_list_index
  | append => exact PySem.F.slot_list_append
  | popAt => exact PySem.F.slot_list_pop
  | extend => exact PySem.F.slot_list_extend
  | _ => cases h
theorem ty_M (m : FT.M) (h : mLst m = true) : typeOf (.builtin (mId m)) = pure (.type "method_descriptor") := by
  cases m with
  | count => exact PySem.F.type_list_count
  | index => exact PySem.F.type_list_index
  | append => exact PySem.F.type_list_append
  | popAt => exact PySem.F.type_list_pop
  | extend => exact PySem.F.type_list_extend
  | _ => cases h
theorem nex_M {m : FT.M} {o : D} {ds : List D} {S S' : Store} {d : D} : methD m o ds S ≠ .ex d S' := by
  unfold methD
  split
  · exact nex_ofO
  · exact nex_ofO
  · unfold appendD
    repeat' split
    all_goals simp
  · unfold popAtD
    repeat' split
    all_goals simp
  · unfold extendD
    repeat' split
    all_goals simp
  · unfold getD
    repeat' split
    all_goals simp
  · simp
theorem mt_M (m : FT.M) (hb : mPlain m = true) : MtR X (mId m) (rM c m) := by
  have hK := h.O.K
  have hu := h.un
  intro pins s σ H x xs v us Q I rx rv hh
  obtain ⟨o, ds, S, g, r, qo, q, w⟩ := hh
  cases m with
  | count =>
    match ds, q, w with
    | [d], .cons q .nil, w => exact mt_countD hK hu pins s σ H _ _ v us Q I rx rv ⟨o, d, _, S, g, rfl, r, qo, q, w⟩
  | index =>
    match ds, q, w with
    | [d], .cons q .nil, w => exact mt_indexF pins s σ H _ _ v us Q I rx rv ⟨hK, o, d, _, S, g, rfl, r, qo, q, w⟩
  | append =>
    match ds, q, w with
    | [d], .cons q .nil, w => exact mt_appendD pins s σ H _ _ v us Q I rx rv ⟨o, d, _, S, g, rfl, r, qo, q, w⟩
  | popAt =>
    match ds, q, w with
    | [d], .cons q .nil, w => exact mt_popAtD pins s σ H _ _ v us Q I rx rv ⟨o, d, _, S, g, rfl, r, qo, q, w⟩
  | extend =>
    match ds, q, w with
    | [d], .cons q .nil, w => exact mt_extendD hK pins s σ H _ _ v us Q I rx rv ⟨o, d, _, S, g, rfl, r, qo, q, w⟩
  | get =>
    match ds, q, w with
    | [k, d], .cons q (.cons q' .nil), w => exact mt_getD h.O hu pins s σ H _ _ v us Q I rx rv ⟨o, k, d, _, _, S, g, rfl, r, qo, q, q', w⟩
  | _ => cases hb
end
end
end FT
end

section
set_option Elab.async false
set_option linter.all false
set_option maxRecDepth 100000
set_option autoImplicit false
/-! FT.Mast1: targets, iteration, comprehensions. -/
namespace FT
open PySem L2 LamX PyProof.Rows

/-! ### slots -/
def setsV : L2.St → List Nat → List V → L2.St
  | σ, i :: r, v :: vs => setsV (σ.set i (some v)) r vs
  | σ, _, _ => σ
theorem wipe_in {σ : L2.St} {i : Nat} {v : Option V} : ∀ {own : List Nat}, i ∈ own → wipe (σ.set i v) own = wipe σ own
  | j :: own, h => by
    by_cases hi : i ∈ own
    · simp only [wipe]; rw [wipe_in hi]
    · have e : i = j := by
        rcases List.mem_cons.mp h with e | e
        · exact e
        · exact absurd e hi
      subst e
      have out : ∀ {own : List Nat}, i ∉ own → wipe (σ.set i v) own = (wipe σ own).set i v := by
        intro own
        induction own with
        | nil => intro _; rfl
        | cons k own ih =>
          intro hk
          simp only [List.mem_cons, not_or] at hk
          simp only [wipe]
          rw [ih hk.2, List.set_comm _ _ hk.1]
      simp only [wipe]
      rw [out hi, List.set_set]
theorem wipe_sets : ∀ {tg : List Nat} {vs : List V} {σ : L2.St} {own : List Nat}, (∀ i ∈ tg, i ∈ own) → wipe (setsV σ tg vs) own = wipe σ own
  | [], _, _, _, _ => by simp [setsV]
  | _ :: _, [], _, _, _ => by simp [setsV]
  | i :: r, v :: vs, σ, own, h => by
    simp only [setsV]
    rw [wipe_sets (fun j hj => h j (by simp [hj])), wipe_in (h i (by simp))]
theorem wipe_wipe (σ : L2.St) (own : List Nat) : wipe (wipe σ own) own = wipe σ own := by
  have key : ∀ l : List Nat, (∀ i ∈ l, i ∈ own) → wipe (wipe σ l) own = wipe σ own := by
    intro l
    induction l with
    | nil => intro _; rfl
    | cons i l ih =>
      intro h
      simp only [wipe]
      rw [wipe_in (h i (by simp)), ih fun j hj => h j (by simp [hj])]
  exact key own fun _ h => h

section
variable {X : L2.Cx} {c : Cfg} {k : Nat} {M : Mc} {W : WX} {C : Cx} {g g' : G} {S : Store} {H : Hp} {σ : L2.St}
theorem bind_sets : ∀ {tg : List Nat} {xs : List D} {vs : List V} {ρ : Env} {σ : L2.St}, xs.length = tg.length → RepAll c g xs vs → RelE c g ρ σ →
    RelE c g ((tg.zip xs).foldl (fun ρ p => ρ.set p.1 (some p.2)) ρ) (setsV σ tg vs)
  | [], _, _, _, _, h, q, r => by
    cases q with
    | nil => exact r
    | cons _ _ => cases h
  | i :: tg, _, _, ρ, σ, h, q, r => by
    cases q with
    | nil => cases h
    | cons q qs =>
      simp only [List.zip_cons_cons, List.foldl_cons, setsV]
      exact bind_sets (by simpa using h) qs (r.set q i)
/-- a loop's target takes d -/
def gB (c : Cfg) (tg : List Nat) (one : Bool) : TG := fun v σ H Q => ∃ ρ S g d ρ', RelE c g ρ σ ∧ RelS c g S H ∧ Rep c g d v ∧ bindE ρ tg one d = some ρ' ∧
  ∀ σ', RelE c g ρ' σ' → (∀ own : List Nat, (∀ i ∈ tg, i ∈ own) → wipe σ' own = wipe σ own) → Q σ' H
def gNames (tg : List Nat) : TGs := fun vs σ H Q => vs.length = tg.length ∧ Q (setsV σ tg vs) H
theorem pg_nm (h : Okx c k M W X) {i : Nat} {x : Expr} (hm : mtName M i x = true) : PG X x (gName i) := by
  unfold mtName at hm
  split at hm
  · simp only [Bool.and_eq_true] at hm
    exact pg_name h.ndX (h.ix hm.1) (h.loc hm.2) (h.sto hm.2)
  · cases hm
theorem PG.imp {x : Expr} {t t' : TG} (h : PG X x t) (i : ∀ v σ H Q, t' v σ H Q → t v σ H Q) : PG X x t' := ⟨fun pins s σ H v u Q I r q => h.run pins s σ H v u Q I r (i v σ H Q q)⟩
theorem PGs.imp {x : List Expr} {t t' : TGs} (h : PGs X x t) (i : ∀ v σ H Q, t' v σ H Q → t v σ H Q) : PGs X x t' := ⟨fun pins s σ H v u Q I r q => h.run pins s σ H v u Q I r (i v σ H Q q)⟩
theorem asg_cons {env : PySem.Env} {e : Expr} {es : List Expr} (h : plainE e = true) : assignEach (e :: es) env = (false, assign e env) :: assignEach es env := by
  cases e <;> first | rfl | cases h
theorem nm_plain {i : Nat} {x : Expr} (hm : mtName M i x = true) : plainE x = true := by
  unfold mtName at hm
  split at hm
  · rfl
  · cases hm
theorem pgs_nms (h : Okx c k M W X) : ∀ {tg : List Nat} {xs : List Expr}, mtNames M tg xs = true → PGs X xs (gNames tg) ∧ (assignEach xs X.env).length = tg.length ∧ (assignEach xs X.env).findIdx? (·.1) = none
  | [], [], _ => ⟨PGs.imp pgs_nil fun vs σ H Q ⟨e, q⟩ => ⟨List.length_eq_zero_iff.mp e, by cases vs <;> simpa [setsV] using q⟩, rfl, rfl⟩
  | i :: r, x :: xs, hm => by
    simp only [mtNames, Bool.and_eq_true] at hm
    obtain ⟨h1, h2, h3⟩ := pgs_nms h hm.2
    have e := asg_cons (env := X.env) (es := xs) (nm_plain hm.1)
    refine ⟨PGs.imp (pgs_cons (pg_nm h hm.1) h1 (by rw [e]; rfl)) fun vs σ H Q ⟨e, q⟩ => ?_, by rw [e]; simp [h2], by rw [e]; simp [List.findIdx?_cons, h3]⟩
    cases vs with
    | nil => cases e
    | cons v vs => exact ⟨v, vs, rfl, by simpa using e, q⟩
  | [], _ :: _, hm => by simp [mtNames] at hm
  | _ :: _, [], hm => by simp [mtNames] at hm
theorem pg_B (h : Okx c k M W X) {tg : List Nat} {one : Bool} {x : Expr} (hm : mtTg M tg one x = true) : PG X x (gB c tg one) := by
  unfold mtTg at hm
  split at hm
  · rename_i h1
    split at hm
    · rename_i i
      refine PG.imp (pg_nm h hm) fun v σ H Q hq => ?_
      obtain ⟨ρ, S, g, d, ρ', re, rs, q, hb, hq⟩ := hq
      unfold bindE at hb
      rw [if_pos h1] at hb
      cases hb
      exact hq _ (re.set q i) fun own ho => wipe_in (ho i (by simp))
    · cases hm
  · rename_i h1
    split at hm
    · rename_i xs _ _
      obtain ⟨p1, p2, p3⟩ := pgs_nms h hm
      refine PG.imp (pg_tup h.calm p1 p2 p3) fun v σ H Q hq => ?_
      obtain ⟨ρ, S, g, d, ρ', re, rs, q, hb, hq⟩ := hq
      unfold bindE at hb
      rw [if_neg h1] at hb
      split at hb
      · rename_i ds
        split at hb
        · rename_i hl
          cases hb
          obtain ⟨a, vs, rfl, ra, ta⟩ := rep_tup rs q
          have hlv : vs.length = tg.length := by rw [← ra.length]; exact hl
          exact ⟨a, vs, rfl, by rw [h.O.K]; exact ta, hlv, hlv, hq _ (bind_sets hl ra re) fun own ho => wipe_sets ho⟩
        · cases hb
      · cases hb
    · cases hm

/-! ### iteration -/
def IterD (c : Cfg) (J : It) (g : G) (ds : List D) : Prop := ∀ g' S H, g.lt g' → RelS c g' S H →
  (∀ i d, ds[i]? = some d → J.go i H ∧ ∀ x H', J.yld i H x H' → ∃ g'', g'.le g'' ∧ RelS c g'' S H' ∧ Rep c g'' d x) ∧ J.stop ds.length H
def tI (c : Cfg) (W : WX) (f : Env → Store → R (List D)) : TI := fun σ H R => At c σ H fun ρ S g => wR c W σ g (fun ds _ H' g' => ∀ J, IterD c J g' ds → R J H') (f ρ S)
theorem PI.imp {t x : Expr} {w w' : TI} (h : PI X t x w) (i : ∀ σ H R, w' σ H R → w σ H R) : PI X t x w' := ⟨fun pins s σ H R I q => h.run pins s σ H R I (i σ H R q)⟩
def seqI (d : D) (S : Store) : R (List D) := match d with
  | .tup xs => .ok xs S
  | .lst xs => .ok xs S
  | .dct kvs => .ok (kvs.map (·.1)) S
  | _ => .bad
theorem iter_dx {a : Addr} {o : Obj} {dks : List D} {ks : List V} (s : g.F a = some (DX a o) ∨ c.K.lookup a = some o) (q : RepAll c g dks ks) : IterD c (Itd c.K a o ks) g dks := fun g' S H l r => by
  have hs : DSt c.K H a o := s.imp (fun e => r.sub _ _ (l.F _ _ e)) id
  have q' := q.mono l
  refine ⟨fun i d hd => ?_, ⟨hs, Nat.le_of_eq q.length.symm⟩⟩
  obtain ⟨v, hv, qv⟩ := q'.get hd
  refine ⟨⟨hs, (List.getElem?_eq_some_iff.mp hv).1⟩, fun x H' ⟨e, y⟩ => ⟨g', .refl _, by rw [e]; exact r, ?_⟩⟩
  rw [hv] at y; cases y
  exact qv
theorem iter_tup {a : Addr} {vs : List V} {ds : List D} (s : SqT c.K g.F a vs) (q : RepAll c g ds vs) : IterD c (Itt c.K a) g ds := fun g' S H l r => by
  have hs := sqT_mono r.sub (sqT_mono l.F s)
  have q' := q.mono l
  refine ⟨fun i d hd => ?_, ⟨vs, hs, Nat.le_of_eq q.length.symm⟩⟩
  obtain ⟨v, hv, qv⟩ := q'.get hd
  refine ⟨⟨vs, v, hs, hv⟩, fun x H' ⟨e, y⟩ => ⟨g', .refl _, by rw [e]; exact r, ?_⟩⟩
  have := y vs hs
  rw [hv] at this; cases this
  exact qv
theorem iter_lst {a : Addr} {vs : List V} {ds : List D} (s : SqL c.K g.F a vs) (q : RepAll c g ds vs) : IterD c (Itl c.K a) g ds := fun g' S H l r => by
  have hs := sqL_mono r.sub (sqL_mono l.F s)
  have q' := q.mono l
  refine ⟨fun i d hd => ?_, ⟨vs, hs, Nat.le_of_eq q.length.symm⟩⟩
  obtain ⟨v, hv, qv⟩ := q'.get hd
  refine ⟨⟨vs, v, hs, hv⟩, fun x H' ⟨e, y⟩ => ⟨g', .refl _, by rw [e]; exact r, ?_⟩⟩
  have := y vs hs
  rw [hv] at this; cases this
  exact qv
theorem rangeD_get : ∀ {n : Nat} {lo : Int} {i : Nat} {d : D}, (rangeD lo n)[i]? = some d → i < n ∧ d = .int (lo + i)
  | 0, _, _, _, h => by simp [rangeD] at h
  | n + 1, lo, 0, d, h => by simp [rangeD] at h; exact ⟨by omega, by rw [← h]; simp⟩
  | n + 1, lo, i + 1, d, h => by
    obtain ⟨h1, h2⟩ := rangeD_get (n := n) (lo := lo + 1) (i := i) (d := d) (by simpa [rangeD] using h)
    refine ⟨by omega, ?_⟩
    rw [h2]
    congr 1
    omega
theorem rangeD_len : ∀ (n : Nat) (lo : Int), (rangeD lo n).length = n
  | 0, _ => rfl
  | n + 1, lo => by simp [rangeD, rangeD_len n]
theorem iter_rng (lo : Int) (n : Nat) : IterD c (Itr lo n) g (rangeD lo n) := fun g' S H l r => by
  refine ⟨fun i d hd => ?_, ?_⟩
  · obtain ⟨h1, h2⟩ := rangeD_get hd
    subst h2
    refine ⟨h1, fun x H' ⟨e, y⟩ => ⟨g', .refl _, by rw [e]; exact r, ?_⟩⟩
    rw [y]
    exact .int _
  · show n ≤ (rangeD lo n).length
    rw [rangeD_len]; exact Nat.le_refl _
theorem pi_seq (h : Okx c k M W X) {t x : Expr} {f : Env → Store → R D} (he : PE X x (tE c W f)) : PI X t x (tI c W fun ρ S => (f ρ S).bind seqI) := by
  refine ⟨fun pins s σ H R I hh => ?_⟩
  obtain ⟨ρ, S, g, re, rs, w⟩ := hh
  have w1 := w.bind
  cases ha : f ρ S with
  | bad => rw [ha] at w1; exact w1.elim
  | ex d S' =>
    refine (pi_list (tg := t) he).run pins s σ H R I ⟨ρ, S, g, re, rs, ?_⟩
    rw [ha] at w1 ⊢
    exact w1
  | ok a S' =>
    rw [ha] at w1
    cases a with
    | tup xs =>
      refine (pi_tup (tg := t) he).run pins s σ H R I ⟨ρ, S, g, re, rs, ?_⟩
      show wR c W σ g _ (f ρ S)
      rw [ha]
      intro H2 g2 l2 s2 v q
      obtain ⟨a, vs, rfl, ra, ta⟩ := rep_tup s2 q
      cases q with
      | tup s0 q0 =>
        rw [h.O.K]
        exact ⟨_, rfl, ⟨vs, ta⟩, w1 H2 g2 l2 s2 H2 g2 (.refl _) s2 _ (iter_tup s0 q0)⟩
    | lst xs =>
      refine (pi_list (tg := t) he).run pins s σ H R I ⟨ρ, S, g, re, rs, ?_⟩
      show wR c W σ g _ (f ρ S)
      rw [ha]
      intro H2 g2 l2 s2 v q
      cases q with
      | lst s0 q0 =>
        rw [h.O.K]
        exact ⟨_, rfl, ⟨_, (s0.mono s2.sub).sq⟩, w1 H2 g2 l2 s2 H2 g2 (.refl _) s2 _ (iter_lst s0.sq q0)⟩
    | dct kvs =>
      refine (pi_dx (c := c) (tg := t) he).run pins s σ H R I ⟨ρ, S, g, re, rs, ?_⟩
      show wR c W σ g _ (f ρ S)
      rw [ha]
      intro H2 g2 l2 s2 v q
      cases q with
      | dct e p k v =>
        rw [h.O.K]
        exact ⟨_, _, _, _, _, rfl, e.imp (s2.sub _ _) id, p, w1 H2 g2 l2 s2 H2 g2 (.refl _) s2 _ (iter_dx e k)⟩
    | _ =>
      refine (pi_list (tg := t) he).run pins s σ H R I ⟨ρ, S, g, re, rs, ?_⟩
      show wR c W σ g _ (f ρ S)
      rw [ha]
      exact fun H2 g2 l2 s2 v q => (w1 H2 g2 l2 s2).elim

/-! ### comprehensions -/
theorem wR.setR {α : Type} {kk : α → Store → Hp → G → Prop} {r : R α} {R : Hp} (w : wR c W σ g kk r) (hR : ∀ a o, g.R a = some o → R a = some o) : wR c W σ (g.wR R) (fun a S H g' => kk a S H (g'.wR g.R)) r := by
  have fix : ∀ {g' : G} {S' : Store} {H' : Hp}, (g.wR R).le g' → RelS c g' S' H' → g.le (g'.wR g.R) ∧ RelS c (g'.wR g.R) S' H' := fun {g' S' H'} l s =>
    ⟨⟨⟨fun a o e => l.F a o e, l.φ⟩, rfl⟩, s.unR fun a o e => by rw [l.R]; exact hR a o e⟩
  cases r with
  | ok a S' => exact fun H' g' l s => w H' _ (fix l s).1 (fix l s).2
  | ex d S' => exact fun cls dx H' g' l s => w cls dx H' _ (fix l s).1 (fix l s).2
  | bad => exact w
theorem wR.nox {α : Type} {kk : α → Store → Hp → G → Prop} {r : R α} {σ' : L2.St} {W' : WX} (w : wR c W σ g kk (noxR r)) : wR c W' σ' g kk r := by
  cases r with
  | ok a S' => exact w
  | ex d S' => exact w.elim
  | bad => exact w
def itemF (tg : List Nat) (one : Bool) (fT : Env → Store → R Bool) (fE : Env → Store → R D) (d : D) (ρ : Env) (S : Store) : R (Option D) := match bindE ρ tg one d with
  | some ρ => (fT ρ S).bind fun b S => if b then (fE ρ S).bind fun d S => .ok (some d) S else .ok none S
  | none => .bad
/-- the reading of a comprehension, from the evaluator's -/
theorem comp_read {own tg : List Nat} {one live : Bool} {fI : Env → Store → R (List D)} {fT : Env → Store → R Bool} {fE : Env → Store → R D} (ho : ∀ j ∈ tg, j ∈ own) {σ : L2.St} {H : Hp} {Q : VK}
    (hh : tE c W (fun ρ S => (fI ρ S).bind fun ds S => if sz ds.length then (compL (itemF tg one fT fE) ds (wipeE ρ own) S).bind fun ds S => newL live ds S else .bad) σ H Q) :
    tLc (tI c W fI) (gB c tg one) (tT c WF fT) (tE c WF fE) own σ H Q := by
  obtain ⟨ρ, S, g, re, rs, w⟩ := hh
  refine ⟨ρ, S, g, re, rs, w.bind.imp fun ds S1 H1 g1 l1 rs1 w1 J hJ => ?_⟩
  split at w1
  case isFalse => exact w1.elim
  case isTrue hz =>
  have hz := sz_le hz
  intro D hD
  have hR1 : g1.R D = none := by
    cases e : g1.R D with
    | none => rfl
    | some o => rw [rs1.rest _ _ e] at hD; cases hD
  have re1 : RelE c g1 ρ σ := re.mono l1.tolt
  let Inv : Nat → Nat → Hp → Prop := fun i m H => m = ds.length - i ∧ i ≤ ds.length ∧ ∃ (S' : Store) (g' : G) (acc : List FT.D) (vs : List V), g1.lt g' ∧ g'.R = upd g1.R D (.lst vs) ∧ RelS c g' S' H ∧ RepAll c g' acc vs ∧ acc.length ≤ i ∧
    wR c W σ (g'.wR g1.R) (fun r S H' g'' => wR c W σ g'' (fun d _ H' g' => ∀ v, Rep c g' d v → Q v H') (newL live (acc ++ r) S)) (compL (itemF tg one fT fE) (ds.drop i) (wipeE ρ own) S')
  refine ⟨Inv, ⟨ds.length, by simp, by omega, S1, g1.wR (upd g1.R D (.lst [])), [], [], G.lt_wR, rfl, rs1.aside (.inl hD), .nil, by simp, ?_⟩, ?_⟩
  · have := w1.bind
    simpa using this
  rintro i m H2 ⟨rfl, hi2, S', g', acc, vs, l', hR', rs', qa, hal, w2⟩
  have hDR : g'.R D = some (.lst vs) := by rw [hR', upd_same]
  have hDH : H2 D = some (.lst vs) := rs'.rest _ _ hDR
  have hsub : ∀ a o, g1.R a = some o → g'.R a = some o := fun a o e => by
    rw [hR', upd_ne (fun z => by rw [z, hR1] at e; cases e)]; exact e
  obtain ⟨J1, J2⟩ := hJ g' S' H2 l' rs'
  by_cases hlt : i < ds.length
  · right
    have hd : ds[i]? = some ds[i] := List.getElem?_eq_getElem hlt
    generalize ds[i] = d at hd
    obtain ⟨j1, j2⟩ := J1 i d hd
    refine ⟨j1, fun H' => ∃ m', m' < ds.length - i ∧ Inv (i + 1) m' H', fun H' z => z, fun x H3 hy => ?_⟩
    obtain ⟨g2, l2, rs2, qx⟩ := j2 x H3 hy
    have hdrop : ds.drop i = d :: ds.drop (i + 1) := by
      rw [List.drop_eq_getElem_cons hlt]
      rw [List.getElem?_eq_getElem hlt] at hd
      cases hd; rfl
    rw [hdrop] at w2
    simp only [compL] at w2
    have w3 := w2.bind
    have e2 : (g2.wR g1.R).wR g2.R = g2 := rfl
    have l2' : (g'.wR g1.R).le (g2.wR g1.R) := ⟨⟨l2.F, l2.φ⟩, rfl⟩
    have w4 := (w3.mono l2').setR (R := g2.R) fun a o e => by rw [l2.R]; exact hsub a o e
    have hw5 := fun σ2 => w4.nox (W' := WF) (σ' := σ2)
    have re2 : RelE c g2 (wipeE ρ own) (wipe σ own) := (re1.mono (l'.trans l2.tolt)).wipe own
    cases hbind : bindE (wipeE ρ own) tg one d with
    | none =>
      have w5 := hw5 σ
      unfold itemF at w5
      rw [hbind] at w5
      exact w5.elim
    | some ρ' =>
    refine ⟨wipeE ρ own, S', g2, d, ρ', re2, rs2, qx, hbind, fun σ2 re3 hw => ⟨?_, ?_⟩⟩
    · rw [hw own ho, wipe_wipe]
    have w5 := hw5 σ2
    unfold itemF at w5
    rw [hbind] at w5
    have w6' := w5.bind
    refine ⟨ρ', S', g2, re3, rs2, w6'.imp fun b S3 H4 g3 l3 rs3 w7 => ?_⟩
    cases b with
    | false =>
      -- left out
      simp only [Bool.false_eq_true, if_false] at w7 ⊢
      refine ⟨ds.length - (i + 1), by omega, rfl, hlt, S3, g3, acc, vs, l'.trans (l2.tolt.trans l3.tolt), by rw [l3.R, l2.R, hR'], rs3, (qa.mono l2.tolt).mono l3.tolt, by omega, ?_⟩
      have w8 := w7 H4 g3 (.refl _) rs3
      have w9 := w8.bind
      refine w9.imp fun r S5 H5 g5 l5 rs5 w10 => ?_
      exact w10 H5 g5 (.refl _) rs5
    | true =>
      simp only [if_true] at w7 ⊢
      have w8 := w7.bind
      refine ⟨ρ', S3, g3, re3.mono l3.tolt, rs3, w8.imp fun dy S4 H5 g4 l4 rs4 w9 v qv => ?_⟩
      have hR4 : g4.R = upd g1.R D (.lst vs) := by rw [l4.R, l3.R, l2.R, hR']
      have hDR4 : g4.R D = some (.lst vs) := by rw [hR4, upd_same]
      have hlv : acc.length = vs.length := qa.length
      refine ⟨vs, rs4.rest _ _ hDR4, by omega, ds.length - (i + 1), by omega, rfl, hlt, S4, g4.wR (upd g4.R D (.lst (vs ++ [v]))), acc ++ [dy], vs ++ [v], (l'.trans (l2.tolt.trans (l3.tolt.trans l4.tolt))).trans G.lt_wR, ?_, rs4.aside (.inr ⟨_, hDR4⟩), ?_, by simp; omega, ?_⟩
      · show upd g4.R D _ = _
        rw [hR4, upd_upd]
      · exact ((((qa.mono l2.tolt).mono l3.tolt).mono l4.tolt).append (.cons qv .nil)).mono G.lt_wR
      · have w10 := w9 H5 g4 (.refl _) rs4
        have w11 := w10.bind
        refine w11.imp fun r S5 H6 g5 l5 rs5 w12 => ?_
        have w13 := w12 H6 g5 (.refl _) rs5
        simpa using w13
  · -- the end
    left
    have hie : i = ds.length := by omega
    subst hie
    refine ⟨J2, ?_⟩
    rw [List.drop_length] at w2
    simp only [compL] at w2
    have w3 := w2 H2 (g'.wR g1.R) (.refl _) (rs'.unR hsub)
    simp only [List.append_nil] at w3
    unfold newL at w3
    split at w3
    case isFalse => exact w3.elim
    case isTrue =>
    cases live with
    | true =>
      simp only [if_true, alloc] at w3
      exact w3 _ ((g'.wR g1.R).new D) G.le_new (rs'.outL hDR hsub hR1 qa) _ (.obj (G.new_at (rs'.unR hsub)))
    | false =>
      simp only [Bool.false_eq_true, if_false] at w3
      obtain ⟨o1, o2⟩ := rs'.outF hDR hsub hR1
      exact w3 _ _ o1 o2 _ (.lst (.inl (.inl upd_same)) ((qa.mono G.lt_wR).mono o1.tolt))
theorem comp_core (h : Okx c k M W X) {y t i : Expr} {fs : List Expr} {scope : Scope} {own tg : List Nat} {one live : Bool} {pos : Pos} {fI : Env → Store → R (List D)} {fT : Env → Store → R Bool} {fE : Env → Store → R D}
    (hb : blkB M.N M.sc scope (ownOf M.N own) = true) (ho : ∀ j ∈ tg, j ∈ own) (hi : PI X t i (tI c W fI)) (hp : plainE i = true)
    (hg : ∀ (s : Shared) (H : Hp) (C : Addr) (cl : List (Str × Addr)) (fp : List Addr), PG (X.blk s H scope (compEnvC scope cl C X.env) fp) t (gB c tg one))
    (ht : ∀ (s : Shared) (H : Hp) (C : Addr) (cl : List (Str × Addr)) (fp : List Addr), PTs (X.blk s H scope (compEnvC scope cl C X.env) fp) fs (tT c WF fT))
    (he : ∀ (s : Shared) (H : Hp) (C : Addr) (cl : List (Str × Addr)) (fp : List Addr), PE (X.blk s H scope (compEnvC scope cl C X.env) fp) y (tE c WF fE)) :
    PE X (.ListComp y [⟨t, i, fs, 0⟩] scope pos) (tE c W fun ρ S => (fI ρ S).bind fun ds S => if sz ds.length then (compL (itemF tg one fT fE) ds (wipeE ρ own) S).bind fun ds S => newL live ds S else .bad) := by
  have hown : (ownOf M.N own).map (·.2) = own := by simp [ownOf, Function.comp_def]
  have ok : BlkOk X.N X.env.scope scope (ownOf M.N own) := by rw [h.N, h.sc]; exact blk_of hb
  refine PE.imp (pe_lc h.calm h.ndX hi ok hg ht he (folded_plain hp)) fun σ H Q hh => ?_
  rw [hown]
  exact comp_read ho hh
/-! ### comprehensions of two loops -/
def itemG (tg : List Nat) (one : Bool) (fE : Env → Store → R D) (d : D) (ρ : Env) (S : Store) : R (Option D) := match bindE ρ tg one d with
  | some ρ => (fE ρ S).bind fun d S => .ok (some d) S
  | none => .bad
def itemLL (tg : List Nat) (one : Bool) (fI2 : Env → Store → R (List D)) (own2 tg2 : List Nat) (one2 : Bool) (fE : Env → Store → R D) (d : D) (ρ : Env) (S : Store) : R (List D) := match bindE ρ tg one d with
  | some ρ => (fI2 ρ S).bind fun es S => if es.length ≤ 128 then compL (itemG tg2 one2 fE) es (wipeE ρ own2) S else .bad
  | none => .bad
theorem comp2_read {own own2 tg tg2 : List Nat} {one one2 live : Bool} {fI fI2 : Env → Store → R (List D)} {fE : Env → Store → R D} (ho : ∀ j ∈ tg, j ∈ own) (ho2 : ∀ j ∈ tg2, j ∈ own2) {σ : L2.St} {H : Hp} {Q : VK}
    (hh : tE c W (fun ρ S => (fI ρ S).bind fun ds S => if ds.length ≤ 65536 then (compLL (itemLL tg one fI2 own2 tg2 one2 fE) ds (wipeE ρ own) S).bind fun ds S => newL live ds S else .bad) σ H Q) :
    tLc2 (tI c W fI) (gB c tg one) (tT c WF fun _ S => .ok true S) (tI c WF fI2) (gB c tg2 one2) (tT c WF fun _ S => .ok true S) (tE c WF fE) own own2 σ H Q := by
  obtain ⟨ρ, S, g, re, rs, w⟩ := hh
  refine ⟨ρ, S, g, re, rs, w.bind.imp fun ds S1 H1 g1 l1 rs1 w1 J hJ => ?_⟩
  split at w1
  case isFalse => exact w1.elim
  case isTrue hz =>
  intro D hD
  have hR1 : g1.R D = none := by
    cases e : g1.R D with
    | none => rfl
    | some o => rw [rs1.rest _ _ e] at hD; cases hD
  have re1 : RelE c g1 ρ σ := re.mono l1.tolt
  let Inv : Nat → Nat → Hp → Prop := fun i m H => m = ds.length - i ∧ i ≤ ds.length ∧ ∃ (S' : Store) (g' : G) (acc : List FT.D) (vs : List V), g1.lt g' ∧ g'.R = upd g1.R D (.lst vs) ∧ RelS c g' S' H ∧ RepAll c g' acc vs ∧ acc.length ≤ i * 128 ∧
    wR c W σ (g'.wR g1.R) (fun r S H' g'' => wR c W σ g'' (fun d _ H' g' => ∀ v, Rep c g' d v → Q v H') (newL live (acc ++ r) S)) (compLL (itemLL tg one fI2 own2 tg2 one2 fE) (ds.drop i) (wipeE ρ own) S')
  refine ⟨Inv, ⟨ds.length, by simp, by omega, S1, g1.wR (upd g1.R D (.lst [])), [], [], G.lt_wR, rfl, rs1.aside (.inl hD), .nil, by simp, ?_⟩, ?_⟩
  · have := w1.bind
    simpa using this
  rintro i m H2 ⟨rfl, hi2, S', g', acc, vs, l', hR', rs', qa, hal, w2⟩
  have hDR : g'.R D = some (.lst vs) := by rw [hR', upd_same]
  have hDH : H2 D = some (.lst vs) := rs'.rest _ _ hDR
  have hsub : ∀ a o, g1.R a = some o → g'.R a = some o := fun a o e => by
    rw [hR', upd_ne (fun z => by rw [z, hR1] at e; cases e)]; exact e
  obtain ⟨J1, J2⟩ := hJ g' S' H2 l' rs'
  by_cases hlt : i < ds.length
  · right
    have hd : ds[i]? = some ds[i] := List.getElem?_eq_getElem hlt
    generalize ds[i] = d at hd
    obtain ⟨j1, j2⟩ := J1 i d hd
    refine ⟨j1, fun H' => ∃ m', m' < ds.length - i ∧ Inv (i + 1) m' H', fun H' z => z, fun x H3 hy => ?_⟩
    obtain ⟨g2, l2, rs2, qx⟩ := j2 x H3 hy
    have hdrop : ds.drop i = d :: ds.drop (i + 1) := by
      rw [List.drop_eq_getElem_cons hlt]
      rw [List.getElem?_eq_getElem hlt] at hd
      cases hd; rfl
    rw [hdrop] at w2
    simp only [compLL] at w2
    have w3 := w2.bind
    have l2' : (g'.wR g1.R).le (g2.wR g1.R) := ⟨⟨l2.F, l2.φ⟩, rfl⟩
    have hw5 := fun σ2 => (w3.mono l2').nox (W' := WF) (σ' := σ2)
    have re2 : RelE c g2 (wipeE ρ own) (wipe σ own) := (re1.mono (l'.trans l2.tolt)).wipe own
    have hR2 : g2.R = upd g1.R D (.lst vs) := by rw [l2.R, hR']
    cases hbind : bindE (wipeE ρ own) tg one d with
    | none =>
      have w5 := hw5 σ
      unfold itemLL at w5
      rw [hbind] at w5
      exact w5.elim
    | some ρ' =>
    refine ⟨wipeE ρ own, S', g2, d, ρ', re2, rs2, qx, hbind, fun σ2 re3 hw => ⟨?_, ?_⟩⟩
    · rw [hw own ho, wipe_wipe]
    have w5 := hw5 σ2
    unfold itemLL at w5
    rw [hbind] at w5
    have w6 := w5.bind.setR (R := g2.R) fun a o e => by rw [l2.R]; exact hsub a o e
    refine ⟨ρ', S', g2, re3, rs2, ?_⟩
    intro H3' g3' l3' rs3'
    simp only [if_true]
    refine ⟨ρ', S', g3', re3.mono l3'.tolt, rs3', (wR.mono l3' w6).imp fun es S3 H4 g3 l3 rs3 w7 J' hJ' => ?_⟩
    split at w7
    case isFalse => exact w7.elim
    case isTrue hz2 =>
    have l23 : g2.lt g3 := l3'.tolt.trans l3.tolt
    have hR3 : g3.R = upd g1.R D (.lst vs) := by rw [l3.R, l3'.R, hR2]
    let In2 : Nat → Nat → Hp → Prop := fun j m H => m = es.length - j ∧ j ≤ es.length ∧ ∃ (S4 : Store) (g4 : G) (bcc : List FT.D) (us : List V), g3.lt g4 ∧ g4.R = upd g1.R D (.lst (vs ++ us)) ∧ RelS c g4 S4 H ∧ RepAll c g4 bcc us ∧ bcc.length ≤ j ∧
      wR c WF σ2 (g4.wR g1.R) (fun r S H' g'' => wR c W σ g'' (fun r2 S H' g'' => wR c W σ g'' (fun d _ H' g' => ∀ v, Rep c g' d v → Q v H') (newL live (acc ++ r2) S)) ((compLL (itemLL tg one fI2 own2 tg2 one2 fE) (ds.drop (i + 1)) (wipeE ρ own) S).bind fun q S => .ok ((bcc ++ r) ++ q) S))
        (compL (itemG tg2 one2 fE) (es.drop j) (wipeE ρ' own2) S4)
    refine ⟨In2, ⟨es.length, by simp, by omega, S3, g3, [], [], ⟨fun _ _ e => e, [], by simp⟩, by rw [hR3, List.append_nil], rs3, .nil, by simp, ?_⟩, ?_⟩
    · simp only [List.nil_append, List.drop_zero]
      exact w7
    rintro j k H5 ⟨rfl, hj2, S4, g4, bcc, us, l4, hR4, rs4, qb, hbl, w8⟩
    have hDR4 : g4.R D = some (.lst (vs ++ us)) := by rw [hR4, upd_same]
    have hsub4 : ∀ a o, g1.R a = some o → g4.R a = some o := fun a o e => by
      rw [hR4, upd_ne (fun z => by rw [z, hR1] at e; cases e)]; exact e
    have l14 : g1.lt g4 := l'.trans (l2.tolt.trans (l23.trans l4))
    have qa4 : RepAll c g4 acc vs := ((qa.mono l2.tolt).mono l23).mono l4
    have hlv : acc.length = vs.length := qa.length
    have hlu : bcc.length = us.length := qb.length
    obtain ⟨K1, K2⟩ := hJ' g4 S4 H5 l4 rs4
    by_cases hlt2 : j < es.length
    · right
      have he : es[j]? = some es[j] := List.getElem?_eq_getElem hlt2
      generalize es[j] = e0 at he
      obtain ⟨k1, k2⟩ := K1 j e0 he
      refine ⟨k1, fun H' => ∃ m', m' < es.length - j ∧ In2 (j + 1) m' H', fun H' z => z, fun x5 H6 hy5 => ?_⟩
      obtain ⟨g5, l5, rs5, qx5⟩ := k2 x5 H6 hy5
      have hdrop2 : es.drop j = e0 :: es.drop (j + 1) := by
        rw [List.drop_eq_getElem_cons hlt2]
        rw [List.getElem?_eq_getElem hlt2] at he
        cases he; rfl
      rw [hdrop2] at w8
      simp only [compL] at w8
      have l5' : (g4.wR g1.R).le (g5.wR g1.R) := ⟨⟨l5.F, l5.φ⟩, rfl⟩
      have hw9 := fun σ3 => (w8.bind.mono l5').nox (W' := WF) (σ' := σ3)
      have re5 : RelE c g5 (wipeE ρ' own2) (wipe σ2 own2) := ((re3.mono l23).mono (l4.trans l5.tolt)).wipe own2
      cases hbind2 : bindE (wipeE ρ' own2) tg2 one2 e0 with
      | none =>
        have w9 := hw9 σ
        unfold itemG at w9
        rw [hbind2] at w9
        exact w9.elim
      | some ρ'' =>
      refine ⟨wipeE ρ' own2, S4, g5, e0, ρ'', re5, rs5, qx5, hbind2, fun σ3 re6 hw3 => ⟨?_, ?_⟩⟩
      · rw [hw3 own2 ho2, wipe_wipe]
      have w9 := hw9 σ3
      unfold itemG at w9
      rw [hbind2] at w9
      have w10 := w9.bind.setR (R := g5.R) fun a o e => by rw [l5.R]; exact hsub4 a o e
      refine ⟨ρ'', S4, g5, re6, rs5, ?_⟩
      intro H7 g6 l6 rs6
      simp only [if_true]
      refine ⟨ρ'', S4, g6, re6.mono l6.tolt, rs6, (wR.mono l6 w10).imp fun dy S5 H8 g7 l7 rs7 w11 v qv => ?_⟩
      have hR7 : g7.R = upd g1.R D (.lst (vs ++ us)) := by rw [l7.R, l6.R, l5.R, hR4]
      have hDR7 : g7.R D = some (.lst (vs ++ us)) := by rw [hR7, upd_same]
      have l47 : g4.lt g7 := l5.tolt.trans (l6.tolt.trans l7.tolt)
      have hsub7 : ∀ a o, g1.R a = some o → g7.R a = some o := fun a o e => by rw [l7.R, l6.R, l5.R]; exact hsub4 a o e
      refine ⟨vs ++ us, rs7.rest _ _ hDR7, ?_, es.length - (j + 1), by omega, rfl, hlt2, S5, g7.wR (upd g7.R D (.lst ((vs ++ us) ++ [v]))), bcc ++ [dy], us ++ [v], (l4.trans l47).trans G.lt_wR, ?_, rs7.aside (.inr ⟨_, hDR7⟩), ?_, by simp; omega, ?_⟩
      · rw [List.length_append, sizeLine_eq]
        omega
      · show upd g7.R D _ = _
        rw [hR7, upd_upd, List.append_assoc]
      · exact ((qb.mono l47).append (.cons qv .nil)).mono G.lt_wR
      · have w12 := w11 H8 (g7.wR g1.R) (.refl _) (rs7.unR hsub7)
        refine w12.bind.imp fun r S6 H9 g8 l8 rs8 w13 => ?_
        have w14 := w13 H9 g8 (.refl _) rs8
        simpa using w14
    · left
      have hje : j = es.length := by omega
      subst hje
      rw [List.drop_length] at w8
      simp only [compL] at w8
      have w9 := w8 H5 (g4.wR g1.R) (.refl _) (rs4.unR hsub4)
      refine ⟨K2, ds.length - (i + 1), by omega, rfl, hlt, S4, g4, acc ++ bcc, vs ++ us, l14, hR4, rs4, qa4.append qb, by rw [List.length_append]; omega, ?_⟩
      refine w9.bind.imp fun r S6 H9 g8 l8 rs8 w13 => ?_
      have w14 := w13 H9 g8 (.refl _) rs8
      simpa using w14
  · -- the end
    left
    have hie : i = ds.length := by omega
    subst hie
    refine ⟨J2, ?_⟩
    rw [List.drop_length] at w2
    simp only [compLL] at w2
    have w3 := w2 H2 (g'.wR g1.R) (.refl _) (rs'.unR hsub)
    simp only [List.append_nil] at w3
    unfold newL at w3
    split at w3
    case isFalse => exact w3.elim
    case isTrue =>
    cases live with
    | true =>
      simp only [if_true, alloc] at w3
      exact w3 _ ((g'.wR g1.R).new D) G.le_new (rs'.outL hDR hsub hR1 qa) _ (.obj (G.new_at (rs'.unR hsub)))
    | false =>
      simp only [Bool.false_eq_true, if_false] at w3
      obtain ⟨o1, o2⟩ := rs'.outF hDR hsub hR1
      exact w3 _ _ o1 o2 _ (.lst (.inl (.inl upd_same)) ((qa.mono G.lt_wR).mono o1.tolt))
theorem pts_true {X : L2.Cx} : PTs X [] (tT c WF fun _ S => .ok true S) := ⟨fun pins s σ H Q I ⟨ρ, S, g, re, rs, w⟩ => pts_nil.run pins s σ H Q I (w H g (.refl _) rs)⟩
theorem comp2_core (h : Okx c k M W X) {y t i t2 i2 : Expr} {scope : Scope} {own own2 tg tg2 : List Nat} {one one2 live : Bool} {pos : Pos} {fI fI2 : Env → Store → R (List D)} {fE : Env → Store → R D}
    (hb : blkB M.N M.sc scope (ownOf M.N own) = true) (ho : ∀ j ∈ tg, j ∈ own) (ho2 : ∀ j ∈ tg2, j ∈ own2) (hoo : ∀ j ∈ own2, j ∈ own) (hi : PI X t i (tI c W fI)) (hp : plainE i = true) (hp2 : plainE i2 = true)
    (hg : ∀ (s : Shared) (H : Hp) (C : Addr) (cl : List (Str × Addr)) (fp : List Addr), PG (X.blk s H scope (compEnvC scope cl C X.env) fp) t (gB c tg one))
    (hi2 : ∀ (s : Shared) (H : Hp) (C : Addr) (cl : List (Str × Addr)) (fp : List Addr), PI (X.blk s H scope (compEnvC scope cl C X.env) fp) t2 i2 (tI c WF fI2))
    (hg2 : ∀ (s : Shared) (H : Hp) (C : Addr) (cl : List (Str × Addr)) (fp : List Addr), PG (X.blk s H scope (compEnvC scope cl C X.env) fp) t2 (gB c tg2 one2))
    (he : ∀ (s : Shared) (H : Hp) (C : Addr) (cl : List (Str × Addr)) (fp : List Addr), PE (X.blk s H scope (compEnvC scope cl C X.env) fp) y (tE c WF fE)) :
    PE X (.ListComp y [⟨t, i, [], 0⟩, ⟨t2, i2, [], 0⟩] scope pos) (tE c W fun ρ S => (fI ρ S).bind fun ds S => if ds.length ≤ 65536 then (compLL (itemLL tg one fI2 own2 tg2 one2 fE) ds (wipeE ρ own) S).bind fun ds S => newL live ds S else .bad) := by
  have hown : (ownOf M.N own).map (·.2) = own := by simp [ownOf, Function.comp_def]
  have ok : BlkOk X.N X.env.scope scope (ownOf M.N own) := by rw [h.N, h.sc]; exact blk_of hb
  refine PE.imp (pe_lc2 (vs1 := own2) h.calm h.ndX hi ok (by rw [hown]; exact hoo) hg (fun _ _ _ _ _ => pts_true (c := c)) hi2 hg2 (fun _ _ _ _ _ => pts_true (c := c)) he (folded_plain hp) (fun _ _ => folded_plain hp2 _)) fun σ H Q hh => ?_
  rw [hown]
  exact comp2_read ho ho2 hh
/-- y = [..], stored at once -/
theorem comp_set (h : Okx c k M W X) {y t i : Expr} {fs : List Expr} {scope : Scope} {own tg : List Nat} {one live : Bool} {pos spos py : Pos} {fI : Env → Store → R (List D)} {fT : Env → Store → R Bool} {fE : Env → Store → R D} {j : Nat} {x : Str}
    (hj : (M.N[j]? == some x) = true) (hx : M.sc.names.lookup x = some .local) (hsw : swapsWith (.ListComp y [⟨t, i, fs, 0⟩] scope pos) (some (.Name x py)) spos.line X.env = pure true)
    (hb : blkB M.N M.sc scope (ownOf M.N own) = true) (ho : ∀ j ∈ tg, j ∈ own) (hi : PI X t i (tI c W fI)) (hp : plainE i = true)
    (hg : ∀ (s : Shared) (H : Hp) (C : Addr) (cl : List (Str × Addr)) (fp : List Addr), PG (X.blk s H scope (compEnvC scope cl C X.env) fp) t (gB c tg one))
    (ht : ∀ (s : Shared) (H : Hp) (C : Addr) (cl : List (Str × Addr)) (fp : List Addr), PTs (X.blk s H scope (compEnvC scope cl C X.env) fp) fs (tT c WF fT))
    (he : ∀ (s : Shared) (H : Hp) (C : Addr) (cl : List (Str × Addr)) (fp : List Addr), PE (X.blk s H scope (compEnvC scope cl C X.env) fp) y (tE c WF fE)) :
    PS X (.Assign [.Name x py] (.ListComp y [⟨t, i, fs, 0⟩] scope pos) spos) (tAsg (tE c W fun ρ S => (fI ρ S).bind fun ds S => if sz ds.length then (compL (itemF tg one fT fE) ds (wipeE ρ own) S).bind fun ds S => newL live ds S else .bad) (gName j)) := by
  have hown : (ownOf M.N own).map (·.2) = own := by simp [ownOf, Function.comp_def]
  have ok : BlkOk X.N X.env.scope scope (ownOf M.N own) := by rw [h.N, h.sc]; exact blk_of hb
  refine PS.imp (ps_setLc h.calm h.ndX (h.ix hj) (by rw [h.sc]; exact hx) hsw hi ok hg ht he (folded_plain hp)) fun D σ H hh => ?_
  rw [hown]
  exact comp_read ho hh
end
end FT
end

section
set_option Elab.async false
set_option linter.all false
set_option maxRecDepth 100000
set_option autoImplicit false
/-! FT.Rev: a[::-1] of tuples, of lists. -/
namespace FT
open PySem L2 LamX PyProof.Rows

theorem adjust_back (n : Nat) : Builtin.Slice.sliceAdjust none none (-1) (n : Int) = ((n : Int) - 1, -1) := by
  unfold Builtin.Slice.sliceAdjust
  simp
theorem places_back (n : Nat) : Builtin.Slice.slicePlaces ((n : Int) - 1) (-1) (-1) = n := by
  unfold Builtin.Slice.slicePlaces
  simp only [show ¬((-1 : Int) > 0) by omega, if_false, Int.neg_neg, Int.ediv_one]
  split <;> omega
theorem pick_back (xs : Array Value) : ((List.range xs.size).filterMap fun (m : Nat) => xs[(((xs.size : Int) - 1) + (m : Int) * (-1)).toNat]?).toArray = xs.toList.reverse.toArray := by
  congr 1
  have e : ∀ k, k ≤ xs.size → (List.range k).filterMap (fun (m : Nat) => xs[(((xs.size : Int) - 1) + (m : Int) * (-1)).toNat]?) = xs.toList.reverse.take k := by
    intro k
    induction k with
    | zero => intro _; rfl
    | succ k ih =>
      intro hk
      rw [List.range_succ, List.filterMap_append, ih (by omega), List.take_succ]
      have e1 : (((xs.size : Int) - 1) + (k : Int) * (-1)).toNat = xs.size - 1 - k := by omega
      have hlt : xs.size - 1 - k < xs.size := by omega
      have h2 : xs.toList.reverse[k]? = some xs[xs.size - 1 - k] := by
        rw [List.getElem?_reverse (by simp; omega)]
        simp only [Array.length_toList]
        rw [Array.getElem?_toList, Array.getElem?_eq_getElem hlt]
      rw [h2]
      have h3 : xs[(((xs.size : Int) - 1) + (k : Int) * (-1)).toNat]? = some xs[xs.size - 1 - k] := by
        rw [e1, Array.getElem?_eq_getElem hlt]
      simp only [List.filterMap_cons, h3, List.filterMap_nil, Option.toList]
  have := e xs.size (Nat.le_refl _)
  rw [this]
  have hl : xs.toList.reverse.length = xs.size := by simp
  rw [← hl, List.take_length]

section
variable {prog : Program} {w : World} {A : Around} {E : Value → Shared → Prop} {s : Shared}
theorem rev_applied {sl : Addr} {vl vu vs : Value} {n : Nat} {Q : Int × Int × Nat → Shared → Prop} (hs : s.heap.IsSliceOf sl vl vu vs) (pl : IsPart vl none) (pu : IsPart vu none) (ps : IsPart vs (some (-1))) (h : Q ((n : Int) - 1, -1, n) s) :
    wpAny (model prog w) A (Builtin.Slice.sliceApplied (.ref sl) (pure (n : Int))) Q E s := by
  obtain ⟨os, hos, _, hds⟩ := id hs
  unfold Builtin.Slice.sliceApplied Builtin.Slice.sliceFields
  refine wpAny_bind (wpAny_bind (wpAny_field hos hds (x := vl) rfl (wpAny_bind (wpAny_field hos hds (x := vu) rfl (wpAny_bind (wpAny_field hos hds (x := vs) rfl (wpAny_pure ?_)))))))
  refine wpAny_bind (HT.slicePart_ ps ?_)
  show wpAny _ _ (if ((-1 : Int) == 0) = true then _ else _) _ _ s
  rw [if_neg (by decide)]
  refine wpAny_bind (HT.slicePart_ pl (wpAny_bind (HT.slicePart_ pu (wpAny_bind (wpAny_pure ?_)))))
  show wpAny _ _ (match Builtin.Slice.sliceAdjust none none (-1) (n : Int) with | (lo, hi) => pure (lo, (-1 : Int), Builtin.Slice.slicePlaces lo hi (-1))) _ _ s
  rw [adjust_back n]
  show wpAny _ _ (pure ((n : Int) - 1, (-1 : Int), Builtin.Slice.slicePlaces ((n : Int) - 1) (-1) (-1))) _ _ s
  rw [places_back]
  exact wpAny_pure h
theorem tup_back {t sl : Addr} {items : Array Value} {vl vu vs : Value} {Q : Value → Shared → Prop} (ht : IsTup s.heap t items) (hs : s.heap.IsSliceOf sl vl vu vs) (pl : IsPart vl none) (pu : IsPart vu none) (ps : IsPart vs (some (-1)))
    (h : Q (.ref s.heap.objs.size) { s with heap := s.heap.push { cls := .type "tuple", data := .seq items.toList.reverse.toArray } }) (hsz : items.size ≤ sizeLine) : wpAny (model prog w) A (getItem (.ref t) (.ref sl)) Q E s := by
  have hfit : sizeOk (.seq items.toList.reverse.toArray) := by
    show items.toList.reverse.toArray.size ≤ sizeLine
    simpa using hsz
  have hTs : s.TypeIs (.ref sl) "slice" := let ⟨os, h1, h2, _⟩ := id hs; ⟨os, h1, h2⟩
  unfold getItem
  try with_reducible refine wpAny_holding ?_
  first | refine wpAny_bind (wpAny_pure ?_) | skip
  refine wpAny_bind (wpAny_sequenceKey ht.typeIs (by decide) (wpAny_bind (wpAny_callSpecial?_slot (name := Str.ofString "__getitem__") ht.typeIs PyProof.Rows.slot_tuple_getitem
    (wpAny_call_entry PyProof.Rows.slot_tuple_getitem ht.typeIs entry_tuple_getitem ?_ (args_tuple_getitem _ _)))))
  show wpAny _ _ (Builtin.Tuple.tupleItemsOf (.ref t) >>= _) _ _ s
  refine wpAny_bind (tupleItemsOf_ ht (wpAny_bind (wpAny_typeOf hTs ?_)))
  rw [if_pos (by decide)]
  refine wpAny_bind (rev_applied hs pl pu ps ?_)
  have hno : ¬ ((((items.size : Int) - 1 == 0) && ((-1 : Int) == 1) && (items.size == items.size)) = true) := by
    simp
  show wpAny _ _ (if (((items.size : Int) - 1 == 0) && ((-1 : Int) == 1) && (items.size == items.size)) = true then _ else _) _ _ s
  rw [if_neg hno, pick_back]
  first
    | exact wpAny_bind (m := Builtin.Tuple.tupleExact _) (wpAny_newObj_type (wpAny_pure ⟨_, rfl, wpAny_pure h⟩) hfit)
    | exact wpAny_bind (wpAny_bind (m := Builtin.Tuple.tupleExact _) (wpAny_newObj_type (wpAny_pure (wpAny_pure ⟨_, rfl, wpAny_pure h⟩)) hfit))
end

section
variable {X : L2.Cx} {c : Cfg} {k : Nat} {M : Mc} {W : WX} {e : Expr} {te : TE}
def tRevA (K : PySem.W.Frag) (te : TE) : TE := fun σ H Q => te σ H fun x H1 => ∃ a xs, x = .ref a ∧ ((SqL K H1 a xs ∧ ∀ p, H1 p = none → Q (.ref p) (upd H1 p (.lst xs.reverse))) ∨ (SqT K H1 a xs ∧ ∀ p, H1 p = none → Q (.ref p) (upd H1 p (.tup xs.reverse))))
theorem pe_revA {kk : Nat} {p1 p2 p3 pos : Pos} (he : PE X e te) : PE X (.Subscript e (.Slice none none (some (.UnaryOp .USub (.Constant (.int 1) kk p1) p2)) p3) pos) (tRevA X.K te) := by
  refine ⟨fun pins s σ H Q I h => ?_⟩
  refine Subscript_ (thn (he.run pins s σ H _ I h) fun v s1 ⟨x, H1, I1, r1, q1⟩ => ?_)
  obtain ⟨a, xs, ex, q1⟩ := q1
  subst ex
  cases r1
  have neg1 : PO X (some (.UnaryOp .USub (.Constant (.int 1) kk p1) p2)) (tPart (tUn (rU fun i => .int (-i)) (tC (.int 1)))) := po_some (pe_un un_neg pe_int)
  refine wpAny_Slice (thn (po_none.run pins s1 σ H1 (fun o H2 => o = none ∧ H2 = H1) I1 ⟨rfl, rfl⟩) fun vl s2 ⟨l, H2, I2, pl, el, e2⟩ =>
    thn (po_none.run pins s2 σ H2 (fun o H3 => o = none ∧ H3 = H2) I2 ⟨rfl, rfl⟩) fun vu s3 ⟨u, H3, I3, pu, eu, e3⟩ =>
    thn (neg1.run pins s3 σ H3 (fun o H4 => o = some (-1) ∧ H4 = H3) I3 ⟨1, rfl, -1, rfl, rfl, rfl⟩) fun vs s4 ⟨o, H4, I4, ps, eo, e4⟩ => ?_)
  subst el e2 eu e3 eo e4
  have I5 : Inv X pins σ H4 { s4 with heap := s4.heap.push { cls := .type "slice", data := .fields #[vl, vu, vs] } } := I4.kept (t' := s4.toks) fun b ob q => Heap.get?_push_of_some _ q
  show wpAny (model X.prog X.w) X.A (subscriptTail e (.Slice none none (some (.UnaryOp .USub (.Constant (.int 1) kk p1) p2)) p3) (.ref a) (.ref s4.heap.objs.size)) (EP X pins σ Q) X.xe { s4 with heap := s4.heap.push { cls := .type "slice", data := .fields #[vl, vu, vs] } }
  rcases q1 with ⟨hx, q⟩ | ⟨hx, q⟩
  · obtain ⟨its, r, ht, hz⟩ := I5.list hx
    have hlen := r.length
    refine tail_any (ops := [.ref a, .ref s4.heap.objs.size]) ht.isList.typeIs (PySem.slot_list_getitem.lookup) ?_ (by with_unfolding_all rfl)
    refine wpAny_getItem_list_slice ht.isList (Heap.IsSliceOf.new _ vl vu vs) pl pu ps (by decide) ?_ (by rw [List.size_toArray]; omega)
    rw [PySem.W.krv_pick]
    exact ⟨.ref _, _, I5.laid (t' := s4.toks) (o := .lst xs.reverse) (fun b ob q => Heap.get?_push_of_some _ q) (Nat.le_refl _) ⟨by rw [List.length_reverse]; exact hz, _, 0, r.reverse, Heap.get?_push_size _ rfl⟩, rfl, q _ (I5.hok.fresh (Nat.le_refl _))⟩
  · obtain ⟨its, r, ht, hz⟩ := I5.tuple hx
    have hlen := r.length
    refine tail_any (ops := [.ref a, .ref s4.heap.objs.size]) ht.typeIs (PyProof.Rows.slot_tuple_getitem.lookup) ?_ (by with_unfolding_all rfl)
    refine tup_back ht (Heap.IsSliceOf.new _ vl vu vs) pl pu ps ?_ (by rw [List.size_toArray]; omega)
    exact ⟨.ref _, _, I5.laid (t' := s4.toks) (o := .tup xs.reverse) (fun b ob q => Heap.get?_push_of_some _ q) (Nat.le_refl _) ⟨by rw [List.length_reverse]; exact hz, _, r.reverse, IsTup.new _ _⟩, rfl, q _ (I5.hok.fresh (Nat.le_refl _))⟩
end
end FT
end

section
set_option Elab.async false
set_option linter.all false
set_option maxRecDepth 100000
set_option autoImplicit false
/-! FT.Mast2: the evaluator's expressions are sound. -/
namespace FT
open PySem L2 LamX PyProof.Rows

section
variable {X : L2.Cx} {c : Cfg} {k : Nat} {M : Mc} {W : WX} {C : Cx} {g g' : G} {S : Store} {H : Hp} {σ : L2.St} {f : Env → Store → R D} {x : Expr}
theorem pe_none (x : Expr) (h : ∀ ρ S, f ρ S = .bad) : PE X x (tE c W f) := ⟨fun pins s σ H Q I ⟨ρ, S, g, re, rs, w⟩ => by dsimp only at w; rw [h] at w; exact w.elim⟩
theorem pt_none {f : Env → Store → R Bool} (x : Expr) (h : ∀ ρ S, f ρ S = .bad) : PT X x (tT c W f) := ⟨fun pins s σ H Q I ⟨ρ, S, g, re, rs, w⟩ => by dsimp only at w; rw [h] at w; exact w.elim⟩
/-- a value as a test -/
theorem pt_of (h : Okx c k M W X) (he : PE X x (tE c W f)) (ht : tstE x = true) : PT X x (tT c W fun ρ S => testR (f ρ S)) := by
  refine PT.imp (pt_truth he (tst_plain ht)) fun σ H Q hh => ?_
  obtain ⟨ρ, S, g, re, rs, w⟩ := hh
  refine tE_mk re rs w.bind fun d S' H' g' l rs' w' v q => ?_
  obtain ⟨b, e, w'⟩ := w'.ofO
  exact ⟨b, tru_of h.O.K rs' q e, w' H' g' (.refl _) rs'⟩
theorem tru_bl (b : Bool) (S : Store) : truD S (.bl b) = some b := rfl
theorem cmp_bool (f : Env → Store → R D) (hf : ∀ ρ S d S', f ρ S = .ok d S' → ∃ b, d = .bl b) {ρ : Env} {S : Store} {g : G} {Q : Bool → Hp → Prop} (w : wR c W σ g (fun b _ H' _ => Q b H') (testR (f ρ S))) :
    wR c W σ g (fun d _ H' _ => ∃ b, d = .bl b ∧ Q b H') (f ρ S) := by
  have w' := w.bind
  cases e : f ρ S with
  | bad => rw [e] at w'; exact w'
  | ex d S' => rw [e] at w'; exact w'
  | ok d S' =>
    rw [e] at w'
    obtain ⟨b, rfl⟩ := hf _ _ _ _ e
    exact fun H' g' l rs => ⟨b, rfl, w' H' g' l rs H' g' (.refl _) rs⟩
end

section
variable {c : Cfg} {k : Nat} {C : Cx}
def SndA (c : Cfg) (k : Nat) (C : Cx) (es : Es) : Prop := ∀ (M : Mc) (W : WX) (X : L2.Cx) (xs : List Expr), mtEs M es xs = true → Okx c k M W X → PA X xs (tA c W (evs C es)) ∧
  (∀ pos, PE X (.BoolOp .And xs pos) (tE c W (evAnd C es)) ∧ PW X (.BoolOp .And xs pos) (tT c W fun ρ S => testR (evAnd C es ρ S))) ∧
  (∀ pos, PE X (.BoolOp .Or xs pos) (tE c W (evOr C es)) ∧ PW X (.BoolOp .Or xs pos) (tT c W fun ρ S => testR (evOr C es ρ S)))
def SndO (c : Cfg) (k : Nat) (C : Cx) (o : O) : Prop := ∀ (M : Mc) (W : WX) (X : L2.Cx) (x : Option Expr), mtO M o x = true → Okx c k M W X →
  PO X x (fun σ H Q => At c σ H fun ρ S g => wR c W σ g (fun o _ H' _ => Q o H') (evO C o ρ S))
def SndI (c : Cfg) (k : Nat) (C : Cx) (i : I) : Prop := ∀ (M : Mc) (W : WX) (X : L2.Cx) (t x : Expr), mtI M i t x = true → Okx c k M W X → PI X t x (tI c W (evI C i))
def SndIfs (c : Cfg) (k : Nat) (C : Cx) (es : Es) : Prop := ∀ (M : Mc) (W : WX) (X : L2.Cx) (xs : List Expr), mtIfs M es xs = true → Okx c k M W X → PTs X xs (tT c W (evIfs C es))

/-- from the value's rule alone -/
theorem Snd.of {e : E} (h : ∀ (M : Mc) (W : WX) (X : L2.Cx) (x : Expr), mtE M e x = true → Okx c k M W X → PE X x (tE c W (ev C e)) ∧ tstE x = true) : Snd c k C e := fun M W X x m ok =>
  ⟨(h M W X x m ok).1, pt_of ok (h M W X x m ok).1 (h M W X x m ok).2⟩
theorem snd_none {e : E} (h : ∀ M x, mtE M e x = false) : Snd c k C e := fun M W X x m _ => by rw [h] at m; cases m

theorem s_var (i : Nat) : Snd c k C (.var i) := .of fun M W X x m ok => by
  simp only [mtE] at m
  split at m
  · simp only [Bool.and_eq_true] at m
    obtain ⟨n1, n2, n3⟩ := okName_of m.2
    refine ⟨PE.imp (pe_var (ok.ix m.1.1) (ok.vis m.1.2) n1 n2) fun σ H Q hh => ?_, rfl⟩
    obtain ⟨ρ, S, g, re, rs, w⟩ := hh
    obtain ⟨d, e, w⟩ := w.ofO
    unfold rget at e
    split at e
    · rename_i d' hd
      cases e
      obtain ⟨v, h1, h2⟩ := re.at_ i _ hd
      exact ⟨v, h1, w H g (.refl _) rs v h2⟩
    · cases e
  · cases m
theorem s_k (q : K) : Snd c k C (.k q) := .of fun M W X x m ok => by
  simp only [mtE] at m
  have base : ∀ {v : V}, (∀ g, Rep c g q.d v) → ∀ σ H Q, tE c W (ev C (.k q)) σ H Q → tC v σ H Q := fun hv σ H Q hh => by
    obtain ⟨ρ, S, g, re, rs, w⟩ := hh
    exact w H g (.refl _) rs _ (hv g)
  unfold mtK at m
  split at m
  · exact ⟨PE.imp pe_non (base fun _ => .non), rfl⟩
  · cases eq_of_beq m; exact ⟨PE.imp pe_bl (base fun _ => .bl _), rfl⟩
  · cases eq_of_beq m; exact ⟨PE.imp pe_int (base fun _ => .int _), rfl⟩
  · cases eq_of_beq m; exact ⟨PE.imp pe_str (base fun _ => .str _), rfl⟩
  · cases m
theorem s_glob (hC : CxOk c k C) (y : Str) : Snd c k C (.glob y) := .of fun M W X x m ok => by
  simp only [mtE] at m
  split at m
  · rename_i z p
    simp only [Bool.and_eq_true] at m
    cases eq_of_beq m.1.1
    obtain ⟨n1, n2, n3⟩ := okName_of m.2
    cases e : C.glob y with
    | none => exact ⟨pe_none _ fun ρ S => by simp only [ev, e]; rfl, rfl⟩
    | some d =>
      obtain ⟨u, v, h1, h2, h3, _⟩ := (hC.glob y d e).ex
      refine ⟨PE.imp (pe_glob (ok.gl m.1.2) (by rw [ok.O.mg]; exact h1) h2 n1) fun σ H Q hh => ?_, rfl⟩
      obtain ⟨ρ, S, g, re, rs, w⟩ := hh
      simp only [ev, e] at w
      exact w H g (.refl _) rs v (h3 g)
  · cases m
theorem s_tup {es : Es} (ih : SndA c k C es) : Snd c k C (.tup es) := .of fun M W X x m ok => by
  simp only [mtE] at m
  split at m
  · refine ⟨PE.imp (pe_tup (ih M W X _ m ok).1) fun σ H Q hh => ?_, rfl⟩
    obtain ⟨ρ, S, g, re, rs, w⟩ := hh
    simp only [ev] at w
    refine tA_mk re rs w.bind fun ds S' H' g' l rs' w' vs q => ?_
    split at w'
    · rename_i hz
      refine ⟨by rw [← q.length]; exact sz_le hz, fun p hp => ?_⟩
      obtain ⟨hl, r'⟩ := rs'.fresh (o := .tup vs) hp (fun ps z => HO.noConfusion z)
      exact w' _ _ hl r' _ (.tup (.inl (.inl upd_same)) (q.mono hl.tolt))
    · exact w'.elim
  · cases m
theorem wants_newL {W : WX} {σ : L2.St} {g : G} {S : Store} {H : Hp} {Q : VK} {live : Bool} {xs : List D} (rs : RelS c g S H) (w : wR c W σ g (fun d _ H' g' => ∀ v, Rep c g' d v → Q v H') (newL live xs S)) : xs.length ≤ sizeLine ∧ Gets c g S H live Q (.lst xs) :=
  (wants_of (fun _ _ => nex_newL) w).gets rs
theorem s_lst (live : Bool) {es : Es} (ih : SndA c k C es) : Snd c k C (.lst live es) := .of fun M W X x m ok => by
  simp only [mtE] at m
  split at m
  · refine ⟨PE.imp (pe_lst (ih M W X _ m ok).1) fun σ H Q hh => ?_, rfl⟩
    obtain ⟨ρ, S, g, re, rs, w⟩ := hh
    simp only [ev] at w
    refine tA_mk re rs w.bind fun ds S' H' g' l rs' w' vs q => ?_
    obtain ⟨h1, h2⟩ := wants_newL rs' w'
    exact ⟨by rw [← q.length]; exact h1, h2.list rs' q⟩
  · cases m
/-- a constant as it stands -/
def K.v : K → V
  | .non => .non
  | .bl b => .bl b
  | .int i => .int i
  | .str s => .str s
theorem K.rep (c : Cfg) (g : G) (q : K) : Rep c g q.d q.v := by
  cases q with
  | non => exact .non
  | bl b => exact .bl b
  | int i => exact .int i
  | str s => exact .str s
theorem K.reps (c : Cfg) (g : G) : ∀ qs : List K, RepAll c g (qs.map K.d) (qs.map K.v)
  | [] => .nil
  | q :: qs => .cons (q.rep c g) (K.reps c g qs)
theorem pe_K {X : L2.Cx} {q : K} {x : Expr} (m : mtK q x = true) : PE X x (tC q.v) := by
  unfold mtK at m
  split at m
  · exact pe_non
  · cases eq_of_beq m; exact pe_bl
  · cases eq_of_beq m; exact pe_int
  · cases eq_of_beq m; exact pe_str
  · cases m
/-- the readings of a display's pairs -/
def trK : List Str → List K → List (TE × TE)
  | k :: ks, q :: qs => (tC (.str k), tC q.v) :: trK ks qs
  | _, _ => []
theorem tp_K {σ : L2.St} {H : Hp} : ∀ {ks : List Str} {qs : List K} {Q : List (V × V) → Hp → Prop}, Q ((ks.zip qs).map fun p => (.str p.1, p.2.v)) H → tPairs (trK ks qs) σ H Q
  | [], _, _, h => h
  | _ :: _, [], _, h => h
  | k :: ks, q :: qs, Q, h => tp_K (ks := ks) (qs := qs) (Q := fun ps H3 => Q ((V.str k, q.v) :: ps) H3) (by simpa using h)
theorem mtDk_cons {k : Str} {ks : List Str} {xs : List (Option Expr)} (h : mtDk (k :: ks) xs = true) : ∃ n p xs', xs = some (.Constant (.str k) n p) :: xs' ∧ mtDk ks xs' = true := by
  cases xs with
  | nil => simp [mtDk] at h
  | cons x xs =>
    cases x with
    | none => simp [mtDk] at h
    | some x =>
      cases x with
      | Constant v n p =>
        cases v with
        | str y =>
          simp only [mtDk, Bool.and_eq_true, beq_iff_eq] at h
          obtain ⟨rfl, h⟩ := h
          exact ⟨n, p, xs, rfl, h⟩
        | _ => simp [mtDk] at h
      | _ => simp [mtDk] at h
theorem pps_K {X : L2.Cx} {pos : Pos} : ∀ {ks : List Str} {qs : List K} {xs : List (Option Expr)} {ys : List Expr}, mtDk ks xs = true → mtDv qs ys = true → ks.length = qs.length → PPs X pos xs ys (trK ks qs)
  | [], [], [], [], _, _, _ => pps_nil
  | [], [], _ :: _, _, h, _, _ => by simp [mtDk] at h
  | [], [], [], _ :: _, _, h, _ => by simp [mtDv] at h
  | [], _ :: _, _, _, _, _, h => by simp at h
  | _ :: _, [], _, _, _, _, h => by simp at h
  | k :: ks, q :: qs, xs, ys, h1, h2, h3 => by
    cases ys with
    | nil => simp [mtDv] at h2
    | cons y ys =>
      simp only [mtDv, Bool.and_eq_true] at h2
      obtain ⟨n, p, xs', rfl, h1'⟩ := mtDk_cons h1
      exact pps_cons pe_str (pe_K h2.1) (pps_K h1' h2.2 (by simpa using h3))
theorem mtDk_len : ∀ {ks : List Str} {xs : List (Option Expr)}, mtDk ks xs = true → xs.all (·.isSome) = true ∧ xs.length = ks.length
  | [], [], _ => ⟨rfl, rfl⟩
  | [], _ :: _, h => by simp [mtDk] at h
  | k :: ks, xs, h => by
    obtain ⟨n, p, xs', rfl, h'⟩ := mtDk_cons h
    obtain ⟨a, b⟩ := mtDk_len h'
    exact ⟨by simpa using a, by simp [b]⟩
theorem mtDv_len : ∀ {qs : List K} {ys : List Expr}, mtDv qs ys = true → ys.length = qs.length
  | [], [], _ => rfl
  | [], _ :: _, h => by simp [mtDv] at h
  | _ :: _, [], h => by simp [mtDv] at h
  | q :: qs, y :: ys, h => by
    simp only [mtDv, Bool.and_eq_true] at h
    simp [mtDv_len h.2]
theorem merge_nd : ∀ {more kvs : List (Key × V)}, ((kvs ++ more).map (·.1)).Nodup → mergeK kvs more = kvs ++ more
  | [], kvs, _ => by simp [mergeK]
  | p :: more, kvs, h => by
    have e : putK kvs p.1 p.2 = kvs ++ [p] := by
      unfold putK
      rw [if_neg]
      intro z
      obtain ⟨q, hq, hq2⟩ := List.any_eq_true.mp z
      rw [List.map_append, List.nodup_append] at h
      exact h.2.2 q.1 (List.mem_map_of_mem hq) p.1 (by simp) (of_decide_eq_true hq2)
    show mergeK (putK kvs p.1 p.2) more = _
    rw [e, merge_nd (by simpa using h)]
    simp
/-- a new dict, however its keys and values stand -/
def tDX (c : Cfg) (dkv : List (D × D)) : TE := fun _ H Q => ∀ p o, H p = none → (∃ ks vs, DctP c p o (dkv.map (·.1)) ks vs ∧ (∀ g, RepAll c g (dkv.map (·.1)) ks) ∧ ∀ g, RepAll c g (dkv.map (·.2)) vs) → Q (.ref p) (upd H p (DX p o))
theorem pe_disp0 {X : L2.Cx} {pos : Pos} {ks : List Str} {qs : List K} {xs : List (Option Expr)} {ys : List Expr} (h1 : mtDk ks xs = true) (h2 : mtDv qs ys = true) (h3 : ks.length = qs.length) (h4 : ks.length ≤ 15) (h5 : ks.Nodup) :
    PE X (.Dict xs ys pos) (fun σ H Q => ∀ p, H p = none → Q (.ref p) (upd H p (.dK ((ks.zip qs).map fun p => (.inr p.1, p.2.v))))) := by
  obtain ⟨l1, l2⟩ := mtDk_len h1
  have l3 := mtDv_len h2
  cases xs with
  | nil =>
    have hk : ks = [] := by cases ks with
      | nil => rfl
      | cons _ _ => simp at l2
    subst hk
    have hq : qs = [] := by cases qs with
      | nil => rfl
      | cons _ _ => simp at h3
    subst hq
    have hy : ys = [] := by cases ys with
      | nil => rfl
      | cons _ _ => simp at l3
    subst hy
    exact pe_dnewK
  | cons x xs =>
    refine PE.imp (pe_disp (pps_K h1 h2 h3) l1 (by omega) (by simp) (by omega)) fun σ H Q hh p hp => ?_
    refine tp_K ⟨upd_same, (ks.zip qs).map fun p => (.inr p.1, p.2.v), by simp [kV, Function.comp_def], by simp; omega, ?_⟩
    rw [merge_nd (by
      simp only [List.nil_append, List.map_map, Function.comp_def]
      have : (ks.zip qs).map (fun p => (Sum.inr p.1 : Key)) = ks.map Sum.inr := by
        rw [← List.map_fst_zip (l₁ := ks) (l₂ := qs) (by omega), List.map_map]
        simp [Function.comp_def, List.map_fst_zip (l₁ := ks) (l₂ := qs) (by omega)]
      rw [this]
      exact List.pairwise_map.mpr (h5.imp fun {a b} ne e => ne (by injection e))), upd_same2]
    exact hh p hp
theorem s_dct (live : Bool) (ks : List Str) (qs : List K) : Snd c k C (.dct live ks qs) := .of fun M W X x m ok => by
  simp only [mtE] at m
  split at m
  · rename_i xs ys pos
    simp only [Bool.and_eq_true] at m
    refine ⟨⟨fun pins s σ H Q I hh => ?_⟩, rfl⟩
    obtain ⟨ρ, S, g, re, rs, w⟩ := hh
    simp only [ev, dispD] at w
    split at w
    case isFalse => exact w.elim
    case isTrue hg =>
    simp only [Bool.and_eq_true, decide_eq_true_eq, beq_iff_eq, List.length_map] at hg
    obtain ⟨⟨h5, h3⟩, h4⟩ := hg
    have lz : ks.length ≤ qs.length := by omega
    have z1 : ((ks.map D.str).zip (qs.map K.d)).map (·.1) = ks.map D.str := List.map_fst_zip (by simp; omega)
    have z2 : ((ks.map D.str).zip (qs.map K.d)).map (·.2) = qs.map K.d := List.map_snd_zip (by simp; omega)
    generalize hz : (ks.map D.str).zip (qs.map K.d) = dkv at w z1 z2
    refine wpAny_mono ((pe_disp0 m.1 m.2 h3 h4 h5 (pos := pos)).run pins s σ H (fun v H1 => ∃ p, H p = none ∧ v = .ref p ∧ H1 = upd H p (.dK ((ks.zip qs).map fun p => (.inr p.1, p.2.v)))) I fun p hp => ⟨p, hp, rfl, rfl⟩) (fun u s1 ⟨v, H1, I1, r1, p, hp, e1, e2⟩ => ?_) fun _ _ z => z
    subst e1 e2
    have kk1 : ((ks.zip qs).map fun p => ((.inr p.1 : Key), p.2.v)).map (·.1) = ks.map Sum.inr := by
      rw [List.map_map]
      have : ((fun x : Key × V => x.1) ∘ fun p : Str × K => ((.inr p.1 : Key), p.2.v)) = Sum.inr ∘ Prod.fst := rfl
      rw [this, ← List.map_map, List.map_fst_zip (by omega)]
    have kk2 : ((ks.zip qs).map fun p => ((.inr p.1 : Key), p.2.v)).map (·.2) = qs.map K.v := by
      rw [List.map_map]
      have : ((fun x : Key × V => x.2) ∘ fun p : Str × K => ((.inr p.1 : Key), p.2.v)) = K.v ∘ Prod.snd := rfl
      rw [this, ← List.map_map, List.map_snd_zip (by omega)]
    obtain ⟨o, kvs, vs, J, p1, p2, p3⟩ := dk_expose (c := c) (g := g) (dkv := dkv) I1 ok.O (by rw [kk1, z1, fS_map]) (by rw [z1]; intro d hd; obtain ⟨z, _, rfl⟩ := List.mem_map.mp hd; rfl) (by rw [z2, kk2]; exact K.reps c g qs) (by
      have := congrArg List.length z1
      rw [List.length_map, List.length_map] at this
      omega)
    refine ⟨.ref p, upd H p (DX p o), J, r1, ?_⟩
    unfold newDct at w
    cases live with
    | true =>
      simp only [if_true, alloc] at w
      exact w _ (g.new p) G.le_new (rs.allocD hp p1 p2 p3) _ (.obj (G.new_at rs))
    | false =>
      simp only [Bool.false_eq_true, if_false] at w
      obtain ⟨hl, r'⟩ := rs.fresh (o := DX p o) hp p1.no.1
      exact w _ _ hl r' _ (.dct (.inl upd_same) p1 (p2.mono hl.tolt) (p3.mono hl.tolt))
  · cases m
theorem s_comp (live : Bool) {elt : E} (tg : List Nat) (one : Bool) {it : I} {ifs : Es} (own : List Nat) (h1 : Snd c k C elt) (h2 : SndI c k C it) (h3 : SndIfs c k C ifs) : Snd c k C (.comp live elt tg one it ifs own) := .of fun M W X x m ok => by
  simp only [mtE] at m
  split at m
  · rename_i y t i fs scope p
    simp only [Bool.and_eq_true] at m
    obtain ⟨⟨⟨⟨⟨⟨m1, m2⟩, m3⟩, m4⟩, m5⟩, m6⟩, m7⟩ := m
    refine ⟨PE.imp (comp_core (live := live) ok m1 (fun j hj => ?_) (h2 M W X t i m4 ok) m5 (fun s H Ca cl fp => pg_B (ok.blk s H scope Ca cl fp) m3)
      (fun s H Ca cl fp => h3 _ _ _ _ m6 (ok.blk s H scope Ca cl fp)) (fun s H Ca cl fp => (h1 _ _ _ _ m7 (ok.blk s H scope Ca cl fp)).1)) fun σ H Q hh => hh, rfl⟩
    have := List.all_eq_true.mp m2 j hj
    exact List.contains_iff_mem.mp this
  · cases m
theorem s_comp2 (live : Bool) {elt : E} (tg : List Nat) (one : Bool) {it it2 : I} (tg2 : List Nat) (one2 : Bool) (own own2 : List Nat) (h1 : Snd c k C elt) (h2 : SndI c k C it) (h3 : SndI c k C it2) : Snd c k C (.comp2 live elt tg one it tg2 one2 it2 own own2) := .of fun M W X x m ok => by
  simp only [mtE] at m
  split at m
  · rename_i y t i t2 i2 scope p
    simp only [Bool.and_eq_true] at m
    obtain ⟨⟨⟨⟨⟨⟨⟨⟨⟨⟨m1, m2⟩, m3⟩, m4⟩, m5⟩, m6⟩, m7⟩, m8⟩, m9⟩, m10⟩, m11⟩ := m
    have sub : ∀ {a b : List Nat}, a.all (b.contains ·) = true → ∀ j ∈ a, j ∈ b := fun h j hj => List.contains_iff_mem.mp (List.all_eq_true.mp h j hj)
    exact ⟨PE.imp (comp2_core (live := live) ok m1 (sub m2) (sub m4) (sub m3) (h2 M W X t i m7 ok) m8 m10 (fun s H Ca cl fp => pg_B (ok.blk s H scope Ca cl fp) m5)
      (fun s H Ca cl fp => h3 _ _ _ _ _ m9 (ok.blk s H scope Ca cl fp)) (fun s H Ca cl fp => pg_B (ok.blk s H scope Ca cl fp) m6) (fun s H Ca cl fp => (h1 _ _ _ _ m11 (ok.blk s H scope Ca cl fp)).1)) fun σ H Q hh => hh, rfl⟩
  · cases m
theorem s_bin (live : Bool) (op : Operator) {a b : E} (ha : Snd c k C a) (hb : Snd c k C b) : Snd c k C (.bin live op a b) := .of fun M W X x m ok => by
  simp only [mtE] at m
  split at m
  · rename_i y o z p
    simp only [Bool.and_eq_true, beq_iff_eq] at m
    obtain ⟨⟨rfl, m1⟩, m2⟩ := m
    refine ⟨PE.imp (pe_op (op_bin ok.O.K live op) (ha M W X _ m1 ok).1 (hb M W X _ m2 ok).1) fun σ H Q hh => ?_, rfl⟩
    obtain ⟨ρ, S, g, re, rs, w⟩ := hh
    simp only [ev] at w
    refine tE_mk re rs w.bind fun d1 S1 H1 g1 l1 rs1 w1 v1 q1 => ?_
    refine tE_mk (re.mono l1.tolt) rs1 w1.bind fun d2 S2 H2 g2 l2 rs2 w2 v2 q2 => ?_
    obtain ⟨d, e, gt⟩ := gets_of rs2 w2
    exact ⟨d1, d2, S2, g2, d, rs2, q1.mono l2.tolt, q2, e, gt⟩
  · cases m
theorem s_rep (live : Bool) {es : Es} {b : E} (ha : SndA c k C es) (hb : Snd c k C b) : Snd c k C (.rep live es b) := .of fun M W X x m ok => by
  simp only [mtE] at m
  split at m
  · rename_i xs p z q
    simp only [Bool.and_eq_true] at m
    refine ⟨PE.imp (pe_op op_rep (pe_lst (ha M W X _ m.1 ok).1) (hb M W X _ m.2 ok).1) fun σ H Q hh => ?_, rfl⟩
    obtain ⟨ρ, S, g, re, rs, w⟩ := hh
    simp only [ev] at w
    refine tA_mk re rs w.bind fun ds S1 H1 g1 l1 rs1 w1 vs q1 => ?_
    split at w1
    case isFalse => exact w1.elim
    case isTrue hz =>
    refine ⟨by rw [← q1.length]; exact sz_le hz, fun p hp => ?_⟩
    obtain ⟨hl, r'⟩ := rs1.fresh (o := .lst vs) hp (fun ps z => HO.noConfusion z)
    refine tE_mk (re.mono (l1.tolt.trans hl.tolt)) r' (w1.mono hl).bind fun d2 S2 H2 g2 l2 rs2 w2 v2 q2 => ?_
    unfold repD at w2
    split at w2
    · rename_i k
      split at w2
      · rename_i hk
        cases rep_int q2
        have q3 : RepAll c g2 ds vs := (q1.mono hl.tolt).mono l2.tolt
        refine ⟨p, k, vs, rfl, rfl, rs2.sub _ _ (l2.F _ _ upd_same), hk.1, hk.2.1, by rw [← q3.length]; exact hk.2.2, ?_⟩
        exact (wants_newL rs2 w2).2.list rs2 (RepAll.flat _ q3)
      · exact w2.elim
    · exact w2.elim
  · cases m
theorem s_neg {a : E} (ha : Snd c k C a) : Snd c k C (.neg a) := .of fun M W X x m ok => by
  simp only [mtE] at m
  split at m
  · refine ⟨PE.imp (pe_un un_neg (ha M W X _ m ok).1) fun σ H Q hh => ?_, rfl⟩
    obtain ⟨ρ, S, g, re, rs, w⟩ := hh
    simp only [ev] at w
    refine tE_mk re rs w.bind fun d1 S1 H1 g1 l1 rs1 w1 v1 q1 => ?_
    obtain ⟨d, e, w1⟩ := w1.ofO
    unfold intO at e
    split at e
    · cases e
      cases rep_int q1
      exact ⟨_, rfl, w1 H1 g1 (.refl _) rs1 _ (.int _)⟩
    · cases e
  · cases m
theorem s_not {a : E} (ha : Snd c k C a) : Snd c k C (.not a) := fun M W X x m ok => by
  simp only [mtE] at m
  split at m
  · obtain ⟨h1, h2⟩ := ha M W X _ m ok
    refine ⟨PE.imp (pe_notT h1) fun σ H Q hh => ?_, PT.imp (pt_not h2) fun σ H Q hh => ?_⟩
    · obtain ⟨ρ, S, g, re, rs, w⟩ := hh
      simp only [ev, testR] at w
      refine tE_mk re rs w.bind.bind fun d1 S1 H1 g1 l1 rs1 w1 v1 q1 => ?_
      obtain ⟨b, e, w1⟩ := w1.ofO
      exact ⟨b, tru_of (c := c) ok.O.K rs1 q1 e, w1 H1 g1 (.refl _) rs1 H1 g1 (.refl _) rs1 _ (.bl _)⟩
    · obtain ⟨ρ, S, g, re, rs, w⟩ := hh
      simp only [ev] at w
      refine tT_mk re rs w.bind.bind fun b S1 H1 g1 l1 rs1 w1 => ?_
      exact w1 H1 g1 (.refl _) rs1 H1 g1 (.refl _) rs1
  · cases m
theorem s_and {es : Es} (ih : SndA c k C es) : Snd c k C (.and es) := fun M W X x m ok => by
  simp only [mtE] at m
  split at m
  · obtain ⟨_, h, _⟩ := ih M W X _ m ok
    exact ⟨PE.imp (h _).1 fun σ H Q hh => hh, PT.imp (h _).2.pt fun σ H Q hh => hh⟩
  · cases m
theorem s_or {es : Es} (ih : SndA c k C es) : Snd c k C (.or es) := fun M W X x m ok => by
  simp only [mtE] at m
  split at m
  · obtain ⟨_, _, h⟩ := ih M W X _ m ok
    exact ⟨PE.imp (h _).1 fun σ H Q hh => hh, PT.imp (h _).2.pt fun σ H Q hh => hh⟩
  · cases m
theorem bl_of {W : WX} {σ : L2.St} {g : G} {S : Store} {o : Option Bool} {K : Bool → Store → Hp → G → Prop} (w : wR c W σ g K (testR (R.ofO (o.map D.bl) S))) : ∃ b, o = some b ∧ wR c W σ g K (.ok b S) := by
  cases o with
  | none => exact w.elim
  | some b => exact ⟨b, rfl, w⟩
theorem s_cmp (op : CmpOp) {a b : E} (ha : Snd c k C a) (hb : Snd c k C b) : Snd c k C (.cmp op a b) := fun M W X x m ok => by
  simp only [mtE] at m
  split at m
  · rename_i y o z p
    simp only [Bool.and_eq_true, beq_iff_eq] at m
    obtain ⟨⟨⟨rfl, m0⟩, m1⟩, m2⟩ := m
    obtain ⟨a1, a2⟩ := ha M W X _ m1 ok
    obtain ⟨b1, b2⟩ := hb M W X _ m2 ok
    have ho := op_cmp (c := c) ok.O ok.un op
    refine ⟨PE.imp (pe_cmpR ho a1 b1 (mark_plain m0)) fun σ H Q hh => ?_, PT.imp (pt_cmpR ho a1 b1 (mark_plain m0)) fun σ H Q hh => ?_⟩
    · obtain ⟨ρ, S, g, re, rs, w⟩ := hh
      simp only [ev] at w
      refine tE_mk re rs w.bind fun d1 S1 H1 g1 l1 rs1 w1 v1 q1 => ?_
      refine tE_mk (re.mono l1.tolt) rs1 w1.bind fun d2 S2 H2 g2 l2 rs2 w2 v2 q2 => ?_
      obtain ⟨d, e, w2⟩ := w2.ofO
      obtain ⟨b, e1, e2⟩ := Option.map_eq_some_iff.mp e
      subst e2
      exact ⟨d1, d2, S2, g2, b, rs2, q1.mono l2.tolt, q2, e1, w2 H2 g2 (.refl _) rs2 _ (.bl _)⟩
    · obtain ⟨ρ, S, g, re, rs, w⟩ := hh
      simp only [ev, testR] at w
      refine tE_mk re rs w.bind.bind fun d1 S1 H1 g1 l1 rs1 w1 v1 q1 => ?_
      refine tE_mk (re.mono l1.tolt) rs1 w1.bind fun d2 S2 H2 g2 l2 rs2 w2 v2 q2 => ?_
      obtain ⟨d, e, w2⟩ := w2.ofO
      obtain ⟨b, e1, e2⟩ := Option.map_eq_some_iff.mp e
      subst e2
      exact ⟨d1, d2, S2, g2, b, rs2, q1.mono l2.tolt, q2, e1, b, rfl, w2 H2 g2 (.refl _) rs2 H2 g2 (.refl _) rs2⟩
  · cases m
theorem s_cmp2 (o1 o2 : CmpOp) {a b e : E} (ha : Snd c k C a) (hb : Snd c k C b) (he : Snd c k C e) : Snd c k C (.cmp2 o1 o2 a b e) := fun M W X x m ok => by
  simp only [mtE] at m
  split at m
  · rename_i y p1 p2 z u p
    simp only [Bool.and_eq_true, beq_iff_eq] at m
    obtain ⟨⟨⟨⟨⟨rfl, rfl⟩, m0⟩, m1⟩, m2⟩, m3⟩ := m
    obtain ⟨a1, _⟩ := ha M W X _ m1 ok
    obtain ⟨b1, _⟩ := hb M W X _ m2 ok
    obtain ⟨e1, _⟩ := he M W X _ m3 ok
    have h1 := op_cmp (c := c) ok.O ok.un o1
    have h2 := op_cmp (c := c) ok.O ok.un o2
    refine ⟨PE.imp (pe_chain h1 h2 a1 b1 e1 (marks_plain m0)) fun σ H Q hh => ?_, PT.imp (pt_chain h1 h2 a1 b1 e1 (marks_plain m0)) fun σ H Q hh => ?_⟩
    · obtain ⟨ρ, S, g, re, rs, w⟩ := hh
      simp only [ev] at w
      refine tE_mk re rs w.bind fun d1 S1 H1 g1 l1 rs1 w1 v1 q1 => ?_
      refine tE_mk (re.mono l1.tolt) rs1 w1.bind fun d2 S2 H2 g2 l2 rs2 w2 v2 q2 => ?_
      obtain ⟨b, e, w3⟩ := w2.bind.ofO
      have w3 := w3 H2 g2 (.refl _) rs2
      refine ⟨d1, d2, S2, g2, b, rs2, q1.mono l2.tolt, q2, e, b, rfl, ?_⟩
      cases b with
      | false => exact w3 H2 g2 (.refl _) rs2 _ (.bl _)
      | true =>
        refine tE_mk ((re.mono l1.tolt).mono l2.tolt) rs2 w3.bind fun d3 S3 H3 g3 l3 rs3 w4 v3 q3 => ?_
        obtain ⟨d, e, w4⟩ := w4.ofO
        obtain ⟨b, e1, e2⟩ := Option.map_eq_some_iff.mp e
        subst e2
        exact ⟨d2, d3, S3, g3, b, rs3, q2.mono l3.tolt, q3, e1, w4 H3 g3 (.refl _) rs3 _ (.bl _)⟩
    · obtain ⟨ρ, S, g, re, rs, w⟩ := hh
      simp only [ev, testR] at w
      refine tE_mk re rs w.bind.bind fun d1 S1 H1 g1 l1 rs1 w1 v1 q1 => ?_
      refine tE_mk (re.mono l1.tolt) rs1 w1.bind fun d2 S2 H2 g2 l2 rs2 w2 v2 q2 => ?_
      obtain ⟨b, e, w3⟩ := w2.bind.ofO
      have w3 := w3 H2 g2 (.refl _) rs2
      refine ⟨d1, d2, S2, g2, b, rs2, q1.mono l2.tolt, q2, e, b, rfl, ?_⟩
      cases b with
      | false => exact ⟨false, rfl, w3 H2 g2 (.refl _) rs2 H2 g2 (.refl _) rs2⟩
      | true =>
        refine tE_mk ((re.mono l1.tolt).mono l2.tolt) rs2 w3.bind fun d3 S3 H3 g3 l3 rs3 w4 v3 q3 => ?_
        obtain ⟨d, e, w4⟩ := w4.ofO
        obtain ⟨b, e1, e2⟩ := Option.map_eq_some_iff.mp e
        subst e2
        exact ⟨d2, d3, S3, g3, b, rs3, q2.mono l3.tolt, q3, e1, b, rfl, w4 H3 g3 (.refl _) rs3 H3 g3 (.refl _) rs3⟩
  · cases m
theorem pt_ifExp {X : L2.Cx} {e a b : Expr} {pos : Pos} {t t1 t2 : TT} (he : PT X e t) (ha : PT X a t1) (hb : PT X b t2) : PT X (.IfExp e a b pos) (fun σ H Q => t σ H fun d H1 => if d = true then t1 σ H1 Q else t2 σ H1 Q) := by
  refine ⟨fun pins s σ H Q I h => ?_⟩
  show wpAny _ _ (do if ← PySem.isTrue e X.env (eval e X.env) then PySem.isTrue a X.env (eval a X.env) else PySem.isTrue b X.env (eval b X.env)) _ _ _
  refine wpAny_bind (thn (he.run pins s σ H _ I h) fun d s1 ⟨H1, I1, q1⟩ => ?_)
  cases d with
  | true => exact ha.run pins s1 σ H1 Q I1 q1
  | false => exact hb.run pins s1 σ H1 Q I1 q1
theorem test_ifx {e a b : E} {ρ : Env} {S : Store} : testR (ev C (.ifx e a b) ρ S) = (testR (ev C e ρ S)).bind fun k S => if k then testR (ev C a ρ S) else testR (ev C b ρ S) := by
  simp only [ev, testR]
  cases (ev C e ρ S) with
  | bad => rfl
  | ex _ _ => rfl
  | ok d S' =>
    simp only [R.bind_ok]
    cases truD S' d with
    | none => rfl
    | some b => cases b <;> rfl
theorem s_ifx {e a b : E} (he : Snd c k C e) (ha : Snd c k C a) (hb : Snd c k C b) : Snd c k C (.ifx e a b) := fun M W X x m ok => by
  simp only [mtE] at m
  split at m
  · simp only [Bool.and_eq_true] at m
    obtain ⟨⟨m1, m2⟩, m3⟩ := m
    obtain ⟨_, e2⟩ := he M W X _ m1 ok
    obtain ⟨a1, a2⟩ := ha M W X _ m2 ok
    obtain ⟨b1, b2⟩ := hb M W X _ m3 ok
    refine ⟨PE.imp (pe_ifExp e2 a1 b1) fun σ H Q hh => ?_, PT.imp (pt_ifExp e2 a2 b2) fun σ H Q hh => ?_⟩
    · obtain ⟨ρ, S, g, re, rs, w⟩ := hh
      simp only [ev] at w
      refine tT_mk re rs w.bind fun d S1 H1 g1 l1 rs1 w1 => ?_
      cases d with
      | true => exact ⟨ρ, S1, g1, re.mono l1.tolt, rs1, w1⟩
      | false => exact ⟨ρ, S1, g1, re.mono l1.tolt, rs1, w1⟩
    · obtain ⟨ρ, S, g, re, rs, w⟩ := hh
      dsimp only at w
      rw [test_ifx] at w
      refine tT_mk re rs w.bind fun d S1 H1 g1 l1 rs1 w1 => ?_
      cases d with
      | true => exact ⟨ρ, S1, g1, re.mono l1.tolt, rs1, w1⟩
      | false => exact ⟨ρ, S1, g1, re.mono l1.tolt, rs1, w1⟩
  · cases m
theorem s_sub {a i : E} (ha : Snd c k C a) (hi : Snd c k C i) : Snd c k C (.sub a i) := .of fun M W X x m ok => by
  simp only [mtE] at m
  split at m
  · simp only [Bool.and_eq_true] at m
    obtain ⟨⟨m0, m1⟩, m2⟩ := m
    refine ⟨PE.imp (pe_ix (ix_sub ok.O ok.un) (ha M W X _ m1 ok).1 (hi M W X _ m2 ok).1 (ix_plain m0)) fun σ H Q hh => ?_, rfl⟩
    obtain ⟨ρ, S, g, re, rs, w⟩ := hh
    simp only [ev] at w
    refine tE_mk re rs w.bind fun d1 S1 H1 g1 l1 rs1 w1 v1 q1 => ?_
    refine tE_mk (re.mono l1.tolt) rs1 w1.bind fun d2 S2 H2 g2 l2 rs2 w2 v2 q2 => ?_
    obtain ⟨d, e, w2⟩ := w2.ofO
    exact ⟨d1, d2, S2, g2, d, rs2, q1.mono l2.tolt, q2, e, fun v q => w2 H2 g2 (.refl _) rs2 v q⟩
  · cases m
theorem s_slice (live : Bool) {a : E} {lo hi : O} (ha : Snd c k C a) (hl : SndO c k C lo) (hh : SndO c k C hi) : Snd c k C (.slice live a lo hi) := .of fun M W X x m ok => by
  simp only [mtE] at m
  split at m
  · simp only [Bool.and_eq_true] at m
    obtain ⟨⟨m0, m1⟩, m2⟩ := m
    refine ⟨PE.imp (pe_slice (sl_slice (c := c) ok.O.K live) (ha M W X _ m0 ok).1 (hl M W X _ m1 ok) (hh M W X _ m2 ok)) fun σ H Q hh => ?_, rfl⟩
    obtain ⟨ρ, S, g, re, rs, w⟩ := hh
    simp only [ev] at w
    refine tE_mk re rs w.bind fun d1 S1 H1 g1 l1 rs1 w1 v1 q1 => ?_
    refine ⟨ρ, S1, g1, re.mono l1.tolt, rs1, w1.bind.imp fun o1 S2 H2 g2 l2 rs2 w2 => ?_⟩
    refine ⟨ρ, S2, g2, (re.mono l1.tolt).mono l2.tolt, rs2, w2.bind.imp fun o2 S3 H3 g3 l3 rs3 w3 => ?_⟩
    obtain ⟨d, e, gt⟩ := gets_of rs3 w3
    exact ⟨d1, S3, g3, d, rs3, (q1.mono l2.tolt).mono l3.tolt, e, gt⟩
  · cases m
theorem s_rev (live : Bool) {a : E} (ha : Snd c k C a) : Snd c k C (.rev live a) := .of fun M W X x m ok => by
  simp only [mtE] at m
  split at m
  · refine ⟨PE.imp (pe_revA (ha M W X _ m ok).1) fun σ H Q hh => ?_, rfl⟩
    obtain ⟨ρ, S, g, re, rs, w⟩ := hh
    simp only [ev] at w
    refine tE_mk re rs w.bind fun d1 S1 H1 g1 l1 rs1 w1 v1 q1 => ?_
    obtain ⟨d, e, gt⟩ := gets_of rs1 w1
    unfold revD at e
    split at e
    · cases e
      obtain ⟨p, vs, rfl, ra, ta⟩ := rep_tup rs1 q1
      exact ⟨p, vs, rfl, .inr ⟨by rw [ok.O.K]; exact ta, gt.tup rs1 ra.reverse⟩⟩
    · obtain ⟨xs, e1, e2⟩ := Option.map_eq_some_iff.mp e
      subst e2
      obtain ⟨p, vs, rfl, ra, ta⟩ := rep_lst rs1 q1 e1
      exact ⟨p, vs, rfl, .inl ⟨by rw [ok.O.K]; exact ta.sq, gt.list rs1 ra.reverse⟩⟩
  · cases m
/-! ### calls -/
theorem fin_one {W : WX} {σ : L2.St} {H : Hp} {b : B} {live : Bool} {e : E} {Q : VK} (hh : tE c W (ev C (.callB b live (.cons e .nil))) σ H Q) : tSS c b live (tE c W (ev C e)) σ H Q := by
  obtain ⟨ρ, S, g, re, rs, w⟩ := hh
  simp only [ev, evs] at w
  refine tE_mk re rs w.bind.bind fun d1 S1 H1 g1 l1 rs1 w1 v1 q1 => ?_
  simp only [R.bind_ok] at w1
  exact ⟨d1, S1, g1, rs1, q1, wants_of (fun _ _ => nex_B) (w1 H1 g1 (.refl _) rs1)⟩
theorem s_callB (hC : CxOk c k C) (b : B) (live : Bool) {es : Es} (ih : SndA c k C es) (ih1 : ∀ e, es = .cons e .nil → Snd c k C e) : Snd c k C (.callB b live es) := .of fun M W X x m ok => by
  unfold mtE at m
  split at m
  · rename_i y p z zs q
    simp only [Bool.and_eq_true, beq_iff_eq] at m
    obtain ⟨⟨⟨rfl, m1⟩, m2⟩, m3⟩ := m
    have m2' := List.all_eq_true.mp m2
    have hs := star_plain (env := X.env) (es := zs) (m2' z (by simp))
    have hpl : ∀ {pos : Pos}, (backTo pos (starEach zs X.env)).any (·.1) = false := starAll_plain (List.all_eq_true.mpr fun e he => m2' e (by simp [he]))
    split at m3
    · -- isinstance
      rename_i t
      split at m3
      · rename_i e u pu
        simp only [Bool.and_eq_true, beq_iff_eq, decide_eq_true_eq] at m3
        obtain ⟨⟨⟨rfl, m4⟩, ht⟩, m5⟩ := m3
        obtain ⟨e1, _⟩ := ih1 e rfl M W X _ m5 ok
        have ht' : t = 0 ∨ t = 1 ∨ t = 2 ∨ t = 3 ∨ t = 4 ∨ t = 5 := by omega
        have hty : (tyName t : Str) ∈ bltNames ∧ bootBuiltins (tyName t : Str) = some (.type (tyName t)) ∧ ((tyName t : Str) ≠ "__name__") ∧ ((tyName t : Str) == ("__debug__" : Str)) = false := by
          rcases ht' with rfl | rfl | rfl | rfl | rfl | rfl <;> exact ⟨by decide +kernel, by decide +kernel, by decide +kernel, by decide +kernel⟩
        have p2 : PE X (.Name (tyName t : Str) pu) (tC (.ty (tyName t))) := pe_bltn (ok.gl m4) (ok.mgN hC hty.1) hty.2.1 rfl hty.2.2.1 hty.2.2.2
        refine ⟨PE.imp (pe_callB (call_isiD ok.O.K t ht) (ok.gl m1) (ok.mgN hC (by show ("isinstance" : Str) ∈ _; decide +kernel)) boot_isinstance (pa_cons e1 (pa_cons p2 pa_nil rfl) hs) (by show ("isinstance" : Str) ≠ _; decide +kernel) (by show (("isinstance" : Str) == _) = false; decide +kernel) hs hpl) fun σ H Q hh => ?_, rfl⟩
        obtain ⟨ρ, S, g, re, rs, w⟩ := hh
        simp only [ev, evs] at w
        refine tE_mk re rs w.bind.bind fun d1 S1 H1 g1 l1 rs1 w1 v1 q1 => ?_
        simp only [R.bind_ok, callBD] at w1
        have w2 := w1 H1 g1 (.refl _) rs1
        obtain ⟨d, e0, w3⟩ := w2.ofO
        obtain ⟨b, e2, e3⟩ := Option.map_eq_some_iff.mp e0
        subst e3
        exact ⟨d1, v1, S1, g1, b, rfl, rs1, q1, e2, w3 H1 g1 (.refl _) rs1 _ (.bl _)⟩
      · cases m3
    · -- sorted(set(a))
      split at m3
      · rename_i e u pu a' qu
        simp only [Bool.and_eq_true, beq_iff_eq] at m3
        obtain ⟨⟨⟨rfl, m4⟩, m5⟩, m6⟩ := m3
        obtain ⟨e1, _⟩ := ih1 e rfl M W X _ m6 ok
        refine ⟨PE.imp (pe_sortedSet (live := live) ok.O.K ok.calm ok.un (ok.gl m4) (ok.mgN hC (by show ("set" : Str) ∈ _; decide +kernel)) e1 (star_plain m5) (ok.gl m1) (ok.mgN hC (by show ("sorted" : Str) ∈ _; decide +kernel))) fun σ H Q hh => ?_, rfl⟩
        exact fin_one hh
      · cases m3
    · -- len(set(a))
      split at m3
      · rename_i e u pu a' qu
        simp only [Bool.and_eq_true, beq_iff_eq] at m3
        obtain ⟨⟨⟨rfl, m4⟩, m5⟩, m6⟩ := m3
        obtain ⟨e1, _⟩ := ih1 e rfl M W X _ m6 ok
        refine ⟨PE.imp (pe_lenSet (live := live) ok.O.K ok.calm ok.un (ok.gl m4) (ok.mgN hC (by show ("set" : Str) ∈ _; decide +kernel)) e1 (star_plain m5) (ok.gl m1) (ok.mgN hC (by show ("len" : Str) ∈ _; decide +kernel))) fun σ H Q hh => ?_, rfl⟩
        exact fin_one hh
      · cases m3
    · simp only [Bool.and_eq_true] at m3
      obtain ⟨hb, m4⟩ := m3
      have hcr := call_B ok b live hb
      have hbt := boot_B b hb
      have hmg := ok.mgN hC (blt_B b hb)
      have n1 : bName b ≠ "__name__" ∧ (bName b == ("__debug__" : Str)) = false := by
        cases b <;> first | (cases hb; done) | exact ⟨by decide +kernel, by decide +kernel⟩
      have fin : ∀ σ H Q, tE c W (ev C (.callB b live es)) σ H Q → tCB (rB c b live) (tA c W (evs C es)) σ H Q := fun σ H Q hh => by
        obtain ⟨ρ, S, g, re, rs, w⟩ := hh
        simp only [ev] at w
        refine tA_mk re rs w.bind fun ds S1 H1 g1 l1 rs1 w1 vs q => ?_
        exact ⟨ds, S1, g1, rs1, q, wants_of (fun _ _ => nex_B) w1⟩
      have pa := (ih M W X _ m4 ok).1
      refine ⟨?_, rfl⟩
      cases b with
      | len => exact PE.imp (pe_callB hcr (ok.gl m1) hmg hbt pa n1.1 n1.2 hs hpl) fin
      | repr => exact PE.imp (pe_callB hcr (ok.gl m1) hmg hbt pa n1.1 n1.2 hs hpl) fin
      | all => exact PE.imp (pe_callB hcr (ok.gl m1) hmg hbt pa n1.1 n1.2 hs hpl) fin
      | any => exact PE.imp (pe_callB hcr (ok.gl m1) hmg hbt pa n1.1 n1.2 hs hpl) fin
      | min2 => exact PE.imp (pe_callB hcr (ok.gl m1) hmg hbt pa n1.1 n1.2 hs hpl) fin
      | int => exact PE.imp (pe_callTy hcr (ok.gl m1) hmg hbt pa n1.1 n1.2 hs hpl) fin
      | tuple => exact PE.imp (pe_callTy hcr (ok.gl m1) hmg hbt pa n1.1 n1.2 hs hpl) fin
      | sorted => exact PE.imp (pe_callB hcr (ok.gl m1) hmg hbt pa n1.1 n1.2 hs hpl) fin
      | list => exact PE.imp (pe_callTy hcr (ok.gl m1) hmg hbt pa n1.1 n1.2 hs hpl) fin
      | _ => cases hb
  · cases m
theorem s_meth (mm : FT.M) {o : E} {es : Es} (ho : Snd c k C o) (ih : SndA c k C es) : Snd c k C (.meth mm o es) := .of fun M W X x m ok => by
  simp only [mtE] at m
  split at m
  · rename_i y n ap z zs p
    simp only [Bool.and_eq_true, beq_iff_eq, decide_eq_true_eq] at m
    obtain ⟨⟨⟨⟨⟨⟨⟨hm, rfl⟩, hl⟩, hbase⟩, m2⟩, hlen⟩, m4⟩, m5⟩ := m
    have m2' := List.all_eq_true.mp m2
    have hs := star_plain (env := X.env) (es := zs) (m2' z (by simp))
    have hpl : ∀ {pos : Pos}, (backTo pos (starEach zs X.env)).any (·.1) = false := starAll_plain (List.all_eq_true.mpr fun e he => m2' e (by simp [he]))
    have hfew : ((backTo p (starEach (z :: zs) X.env)).all (fun x => !x.1) && (backToKw p (keywordEach [] X.env)).all (fun x => x.1.isSome) && decide ((z :: zs).length + ([] : List Keyword).length + (if ([] : List Keyword).isEmpty then 0 else 1) < 30)) = true := by
      rw [starAll_plain2 m2]
      simp only [Bool.true_and, Bool.and_eq_true, decide_eq_true_eq]
      refine ⟨rfl, ?_⟩
      simp only [List.length_nil, List.isEmpty_nil, if_true]
      omega
    by_cases hget : mm = .get
    · subst hget
      refine ⟨PE.imp (pe_dm PySem.F.slot_dict_get PySem.F.type_dict_get (mt_M ok .get hm) (ho M W X _ m4 ok).1 (ih M W X _ m5 ok).1 (base_plain hbase _) hfew (by simpa using hl) hs hpl) fun σ H Q hh => ?_, rfl⟩
      obtain ⟨ρ, S, g, re, rs, w⟩ := hh
      simp only [ev] at w
      refine tE_mk re rs w.bind fun d1 S1 H1 g1 l1 rs1 w1 v1 q1 => ?_
      split at w1
      · rename_i hok
        obtain ⟨kvs, hkv⟩ := Option.isSome_iff_exists.mp (show (dctD S1 d1).isSome = true from hok)
        obtain ⟨a, ob, ks, vs, ea, dst, dp, _⟩ := dst_of ok.O.K rs1 q1 hkv
        refine ⟨⟨a, ob, ea, dst, dp.ex⟩, ?_⟩
        refine tA_mk (re.mono l1.tolt) rs1 w1.bind fun ds S2 H2 g2 l2 rs2 w2 us q2 => ?_
        exact ⟨d1, ds, S2, g2, rs2, q1.mono l2.tolt, q2, wants_of (fun _ _ => nex_M ok) w2⟩
      · exact w1.elim
    have hml : mLst mm = true := by
      unfold mLst
      rw [hm, Bool.true_and, Bool.not_eq_true', beq_eq_false_iff_ne]
      exact hget
    refine ⟨PE.imp (pe_bm PySem.F.plainAttrs_list (slot_M ok mm hml) (ty_M ok mm hml) (mt_M ok mm hm) (ho M W X _ m4 ok).1 (ih M W X _ m5 ok).1 (base_plain hbase _) hfew (by simpa using hl) hs hpl) fun σ H Q hh => ?_, rfl⟩
    obtain ⟨ρ, S, g, re, rs, w⟩ := hh
    simp only [ev] at w
    refine tE_mk re rs w.bind fun d1 S1 H1 g1 l1 rs1 w1 v1 q1 => ?_
    split at w1
    · rename_i hok
      have hls : ∃ xs, lstD S1 d1 = some xs := by
        cases mm <;> first | (cases hm; done) | (exact absurd rfl hget) | exact Option.isSome_iff_exists.mp hok
      obtain ⟨xs, hxs⟩ := hls
      obtain ⟨a, vs, ea, ra, ta⟩ := rep_lst rs1 q1 hxs
      subst ea
      refine ⟨.inl ⟨rfl, vs, by rw [ok.O.K]; exact ta.sq⟩, ?_⟩
      refine tA_mk (re.mono l1.tolt) rs1 w1.bind fun ds S2 H2 g2 l2 rs2 w2 us q2 => ?_
      exact ⟨d1, ds, S2, g2, rs2, q1.mono l2.tolt, q2, wants_of (fun _ _ => nex_M ok) w2⟩
    · exact w1.elim
  · cases m
theorem s_call (hC : CxOk c k C) (f : Str) {es : Es} (ih : SndA c k C es) : Snd c k C (.call f es) := .of fun M W X x m ok => by
  simp only [mtE] at m
  split at m
  · rename_i y p z zs q
    simp only [Bool.and_eq_true, beq_iff_eq] at m
    obtain ⟨⟨⟨⟨rfl, m1⟩, mn⟩, m2⟩, m3⟩ := m
    obtain ⟨n1, n2, n3⟩ := okName_of mn
    have m2' := List.all_eq_true.mp m2
    have hs := star_plain (env := X.env) (es := zs) (m2' z (by simp))
    have hpl : (backTo q (starEach zs X.env)).any (·.1) = false := starAll_plain (List.all_eq_true.mpr fun e he => m2' e (by simp [he]))
    have pa := (ih M W X _ m3 ok).1
    refine ⟨?_, rfl⟩
    cases hf : C.call f with
    | none => exact pe_none _ fun ρ S => by simp only [ev, hf]
    | some h =>
      obtain ⟨a, fd, ps, h1, h2, F, hb⟩ := (hC.call f h hf).ex
      refine ⟨fun pins s σ H Q I hh => ?_⟩
      obtain ⟨ρ, S, g, re, rs, w⟩ := hh
      simp only [ev, hf] at w
      refine wpAny_Call_Name_kw (ld_glob I (ok.gl m1) (by rw [ok.O.mg]; exact h1) ?_ n1)
      have hk : PySem.W.keepIn X.K (.ref a) = true := by rw [ok.O.K]; exact h2
      have ta : tA c W (evs C es) σ H (fun vs H1 => spC c h vs H1 Q (WE W σ)) := tA_mk re rs w.bind fun ds S1 H1 g1 l1 rs1 w1 vs q1 => ⟨ds, S1, g1, rs1, q1, by
        cases hr : h ds S1 with
        | ok d S' => rw [hr] at w1; exact w1
        | ex d S' => rw [hr] at w1; exact w1
        | bad => rw [hr] at w1; exact w1⟩
      exact PySem.W.callWith_K (h₀ := X.base) I.ok.mod.kin hk (thn (pa.run q pins s σ H _ I ta) fun us s1 ⟨vs, H1, I1, r, q1⟩ => ⟨I1.kIn, run_G ok.O F ok.gd ok.room hb ok.tk I1 r q1⟩) hs hpl
  · cases m
end
end FT
end

section
set_option Elab.async false
set_option linter.all false
set_option maxRecDepth 100000
set_option autoImplicit false
/-! FT.Mast3: expressions, all together. -/
namespace FT
open PySem L2 LamX PyProof.Rows

section
variable {c : Cfg} {k : Nat} {C : Cx}
theorem pw_none {X : L2.Cx} {W : WX} {f : Env → Store → R Bool} (x : Expr) (h : ∀ ρ S, f ρ S = .bad) : PW X x (tT c W f) := ⟨fun wh pins s σ H Q I ⟨ρ, S, g, re, rs, w⟩ => by dsimp only at w; rw [h] at w; exact w.elim⟩
theorem PW.imp {X : L2.Cx} {x : Expr} {t t' : TT} (h : PW X x t) (i : ∀ σ H Q, t' σ H Q → t σ H Q) : PW X x t' := ⟨fun wh pins s σ H Q I q => h.run wh pins s σ H Q I (i σ H Q q)⟩
theorem a_nil : SndA c k C .nil := fun M W X xs m ok => by
  simp only [mtEs, List.isEmpty_iff] at m
  subst m
  refine ⟨PA.imp pa_nil fun σ H Q hh => ?_, fun pos => ⟨pe_none _ fun ρ S => rfl, pw_none _ fun ρ S => rfl⟩, fun pos => ⟨pe_none _ fun ρ S => rfl, pw_none _ fun ρ S => rfl⟩⟩
  obtain ⟨ρ, S, g, re, rs, w⟩ := hh
  exact w H g (.refl _) rs _ .nil
theorem and_cons {e : E} {r : Es} (h : r ≠ .nil) {ρ : Env} {S : Store} : evAnd C (.cons e r) ρ S = (ev C e ρ S).bind fun d S => (R.ofO (truD S d) S).bind fun b S => if b then evAnd C r ρ S else .ok d S := by
  cases r with
  | nil => exact (h rfl).elim
  | cons _ _ => rfl
  | star _ _ => rfl
theorem or_cons {e : E} {r : Es} (h : r ≠ .nil) {ρ : Env} {S : Store} : evOr C (.cons e r) ρ S = (ev C e ρ S).bind fun d S => (R.ofO (truD S d) S).bind fun b S => if b then .ok d S else evOr C r ρ S := by
  cases r with
  | nil => exact (h rfl).elim
  | cons _ _ => rfl
  | star _ _ => rfl
theorem mtEs_ne {M : Mc} {r : Es} {xs : List Expr} (h : r ≠ .nil) (m : mtEs M r xs = true) : ∃ y ys, xs = y :: ys := by
  cases xs with
  | cons y ys => exact ⟨y, ys, rfl⟩
  | nil => cases r with
    | nil => exact (h rfl).elim
    | cons _ _ => simp [mtEs] at m
    | star _ _ => simp [mtEs] at m
theorem test_and {e : E} {r : Es} (h : r ≠ .nil) {ρ : Env} {S : Store} : testR (evAnd C (.cons e r) ρ S) = (testR (ev C e ρ S)).bind fun b S => if b then testR (evAnd C r ρ S) else .ok false S := by
  rw [and_cons h]
  simp only [testR]
  cases (ev C e ρ S) with
  | bad => rfl
  | ex _ _ => rfl
  | ok d S' =>
    simp only [R.bind_ok]
    cases e2 : truD S' d with
    | none => rfl
    | some b => cases b with
      | true => rfl
      | false => simp [e2]
theorem test_or {e : E} {r : Es} (h : r ≠ .nil) {ρ : Env} {S : Store} : testR (evOr C (.cons e r) ρ S) = (testR (ev C e ρ S)).bind fun b S => if b then .ok true S else testR (evOr C r ρ S) := by
  rw [or_cons h]
  simp only [testR]
  cases (ev C e ρ S) with
  | bad => rfl
  | ex _ _ => rfl
  | ok d S' =>
    simp only [R.bind_ok]
    cases e2 : truD S' d with
    | none => rfl
    | some b => cases b with
      | false => rfl
      | true => simp [e2]
theorem a_cons {e : E} {r : Es} (h1 : Snd c k C e) (h2 : SndA c k C r) : SndA c k C (.cons e r) := fun M W X xs m ok => by
  cases xs with
  | nil => simp [mtEs] at m
  | cons y ys =>
    simp only [mtEs, Bool.and_eq_true] at m
    obtain ⟨⟨m0, m1⟩, m2⟩ := m
    obtain ⟨e1, e2⟩ := h1 M W X y m1 ok
    obtain ⟨r1, r2, r3⟩ := h2 M W X ys m2 ok
    refine ⟨PA.imp (pa_cons e1 r1 (star_plain m0)) fun σ H Q hh => ?_, fun pos => ?_, fun pos => ?_⟩
    · obtain ⟨ρ, S, g, re, rs, w⟩ := hh
      simp only [evs] at w
      refine tE_mk re rs w.bind fun d1 S1 H1 g1 l1 rs1 w1 v1 q1 => ?_
      refine tA_mk (re.mono l1.tolt) rs1 w1.bind fun ds S2 H2 g2 l2 rs2 w2 vs q2 => ?_
      exact w2 H2 g2 (.refl _) rs2 _ (.cons (q1.mono l2.tolt) q2)
    · by_cases hr : r = .nil
      · subst hr
        simp only [mtEs, List.isEmpty_iff] at m2
        subst m2
        exact ⟨PE.imp (pe_one e1) fun σ H Q hh => hh, PW.imp (pw_and1 e2) fun σ H Q hh => hh⟩
      · obtain ⟨y2, ys2, rfl⟩ := mtEs_ne hr m2
        obtain ⟨b1, b2⟩ := r2 pos
        refine ⟨PE.imp (pe_andT e1 b1) fun σ H Q hh => ?_, PW.imp (pw_and e2 b2) fun σ H Q hh => ?_⟩
        · obtain ⟨ρ, S, g, re, rs, w⟩ := hh
          try dsimp only at w
          rw [and_cons hr] at w
          refine tE_mk re rs w.bind fun d1 S1 H1 g1 l1 rs1 w1 v1 q1 => ?_
          obtain ⟨b, e, w1⟩ := w1.bind.ofO
          have w2 := w1 H1 g1 (.refl _) rs1
          refine ⟨b, tru_of ok.O.K rs1 q1 e, ?_⟩
          cases b with
          | true => exact ⟨ρ, S1, g1, re.mono l1.tolt, rs1, w2⟩
          | false => exact w2 H1 g1 (.refl _) rs1 _ q1
        · obtain ⟨ρ, S, g, re, rs, w⟩ := hh
          try dsimp only at w
          rw [test_and hr] at w
          refine tT_mk re rs w.bind fun b S1 H1 g1 l1 rs1 w1 => ?_
          cases b with
          | true => exact ⟨ρ, S1, g1, re.mono l1.tolt, rs1, w1⟩
          | false => exact w1 H1 g1 (.refl _) rs1
    · by_cases hr : r = .nil
      · subst hr
        simp only [mtEs, List.isEmpty_iff] at m2
        subst m2
        exact ⟨PE.imp (pe_one e1) fun σ H Q hh => hh, PW.imp (pw_or1 e2) fun σ H Q hh => hh⟩
      · obtain ⟨y2, ys2, rfl⟩ := mtEs_ne hr m2
        obtain ⟨b1, b2⟩ := r3 pos
        refine ⟨PE.imp (pe_orT e1 b1) fun σ H Q hh => ?_, PW.imp (pw_or e2 b2) fun σ H Q hh => ?_⟩
        · obtain ⟨ρ, S, g, re, rs, w⟩ := hh
          try dsimp only at w
          rw [or_cons hr] at w
          refine tE_mk re rs w.bind fun d1 S1 H1 g1 l1 rs1 w1 v1 q1 => ?_
          obtain ⟨b, e, w1⟩ := w1.bind.ofO
          have w2 := w1 H1 g1 (.refl _) rs1
          refine ⟨b, tru_of ok.O.K rs1 q1 e, ?_⟩
          cases b with
          | false => exact ⟨ρ, S1, g1, re.mono l1.tolt, rs1, w2⟩
          | true => exact w2 H1 g1 (.refl _) rs1 _ q1
        · obtain ⟨ρ, S, g, re, rs, w⟩ := hh
          try dsimp only at w
          rw [test_or hr] at w
          refine tT_mk re rs w.bind fun b S1 H1 g1 l1 rs1 w1 => ?_
          cases b with
          | false => exact ⟨ρ, S1, g1, re.mono l1.tolt, rs1, w1⟩
          | true => exact w1 H1 g1 (.refl _) rs1
theorem a_star {e : E} {r : Es} (h1 : Snd c k C e) (h2 : SndA c k C r) : SndA c k C (.star e r) := fun M W X xs m ok => by
  simp only [mtEs] at m
  split at m
  · rename_i y p ys
    simp only [Bool.and_eq_true] at m
    obtain ⟨e1, e2⟩ := h1 M W X y m.1 ok
    obtain ⟨r1, r2, r3⟩ := h2 M W X ys m.2 ok
    refine ⟨PA.imp (StX.pa_star e1 r1) fun σ H Q hh => ?_, fun pos => ⟨pe_none _ fun ρ S => rfl, pw_none _ fun ρ S => rfl⟩, fun pos => ⟨pe_none _ fun ρ S => rfl, pw_none _ fun ρ S => rfl⟩⟩
    obtain ⟨ρ, S, g, re, rs, w⟩ := hh
    simp only [evs] at w
    refine tE_mk re rs w.bind fun d1 S1 H1 g1 l1 rs1 w1 v1 q1 => ?_
    split at w1
    · rename_i xs hs
      obtain ⟨a, vs, rfl, ra, ta⟩ := rep_seq rs1 q1 hs
      refine ⟨a, vs, rfl, by rw [ok.O.K]; exact ta.symm, ?_⟩
      refine tA_mk (re.mono l1.tolt) rs1 w1.bind fun ds S2 H2 g2 l2 rs2 w2 us q2 => ?_
      exact w2 H2 g2 (.refl _) rs2 _ ((ra.mono l2.tolt).append q2)
    · exact w1.elim
  · cases m
theorem o_non : SndO c k C .non := fun M W X x m ok => by
  simp only [mtO, Option.isNone_iff_eq_none] at m
  subst m
  refine ⟨fun pins s σ H Q I hh => po_none.run pins s σ H Q I ?_⟩
  obtain ⟨ρ, S, g, re, rs, w⟩ := hh
  exact w H g (.refl _) rs
theorem o_som {e : E} (h : Snd c k C e) : SndO c k C (.som e) := fun M W X x m ok => by
  simp only [mtO] at m
  split at m
  · obtain ⟨e1, _⟩ := h M W X _ m ok
    refine ⟨fun pins s σ H Q I hh => (po_some e1).run pins s σ H Q I ?_⟩
    obtain ⟨ρ, S, g, re, rs, w⟩ := hh
    simp only [evO] at w
    refine tE_mk re rs w.bind fun d1 S1 H1 g1 l1 rs1 w1 v1 q1 => ?_
    split at w1
    · cases rep_int q1
      exact ⟨_, rfl, w1 H1 g1 (.refl _) rs1⟩
    · exact w1.elim
  · cases m
theorem i_seq {e : E} (h : Snd c k C e) : SndI c k C (.seq e) := fun M W X t x m ok => by
  simp only [mtI] at m
  exact PI.imp (pi_seq (t := t) ok (h M W X _ m ok).1) fun σ H R hh => hh
theorem i_range (hC : CxOk c k C) {e : E} (h : Snd c k C e) : SndI c k C (.range e) := fun M W X t x m ok => by
  simp only [mtI] at m
  split at m
  · rename_i y p z q
    simp only [Bool.and_eq_true, beq_iff_eq] at m
    obtain ⟨⟨⟨rfl, m1⟩, m2⟩, m3⟩ := m
    have hs : starEach [z] X.env = [(false, eval z X.env)] := star_plain m2
    refine PI.imp (pi_range1 (tg := t) (ok.gl m1) (ok.mgN hC (by decide +kernel)) (pa_cons (h M W X _ m3 ok).1 pa_nil hs) hs) fun σ H R hh => ?_
    obtain ⟨ρ, S, g, re, rs, w⟩ := hh
    simp only [evI] at w
    refine tE_mk re rs w.bind fun d1 S1 H1 g1 l1 rs1 w1 v1 q1 => ?_
    split at w1
    · split at w1
      · rename_i hk
        cases rep_int q1
        exact ⟨_, rfl, hk.1, hk.2, w1 H1 g1 (.refl _) rs1 _ (iter_rng 0 _)⟩
      · exact w1.elim
    · exact w1.elim
  · cases m
theorem i_none {i : I} (h : ∀ M t x, mtI M i t x = false) : SndI c k C i := fun M W X t x m _ => by rw [h] at m; cases m
theorem f_nil : SndIfs c k C .nil := fun M W X xs m ok => by
  simp only [mtIfs, List.isEmpty_iff] at m
  subst m
  refine ⟨fun pins s σ H Q I hh => pts_nil.run pins s σ H Q I ?_⟩
  obtain ⟨ρ, S, g, re, rs, w⟩ := hh
  exact w H g (.refl _) rs
theorem f_cons {e : E} {r : Es} (h : Snd c k C e) : SndIfs c k C (.cons e r) := fun M W X xs m ok => by
  unfold mtIfs at m
  split at m
  · exact ⟨fun pins s σ H Q I hh => (pts_one (h M W X _ m ok).2).run pins s σ H Q I hh⟩
  · cases m
theorem f_star {e : E} {r : Es} : SndIfs c k C (.star e r) := fun M W X xs m ok => by simp [mtIfs] at m
theorem strs_rep {g : G} : ∀ {ds : List D} {vs : List V} {bs : List Str}, RepAll c g ds vs → strsOf ds = some bs → vs = bs.map V.str
  | [], _, _, .nil, h => by cases h; rfl
  | .str b :: ds, _, _, .cons q qs, h => by
    simp only [strsOf] at h
    obtain ⟨cs, e1, e2⟩ := Option.map_eq_some_iff.mp h
    subst e2
    rw [rep_str q, strs_rep qs e1]; rfl
theorem s_gidx (hC : CxOk c k C) (y : Str) {i : E} (h : Snd c k C i) : Snd c k C (.gidx y i) := .of fun M W X x m ok => by
  simp only [mtE] at m
  split at m
  · rename_i y' py mn ap z p
    simp only [Bool.and_eq_true, beq_iff_eq] at m
    obtain ⟨⟨⟨⟨⟨⟨rfl, m1⟩, mn⟩, rfl⟩, hl⟩, m2⟩, m3⟩ := m
    obtain ⟨n1, n2, n3⟩ := okName_of mn
    refine ⟨?_, rfl⟩
    cases e : C.glob y with
    | none => exact pe_none _ fun ρ S => by simp only [ev, e]
    | some d =>
    cases d with
    | tup ys =>
      obtain ⟨u, v, h1, h2, h3, h4⟩ := (hC.glob y _ e).ex
      obtain ⟨a, o, rfl, k1, k2, k3⟩ := h4 ys rfl
      have hs : starEach [z] X.env = [(false, eval z X.env)] := star_plain m2
      have hfew : ((backTo p (starEach [z] X.env)).all (fun x => !x.1) && (backToKw p (keywordEach [] X.env)).all (fun x => x.1.isSome) && decide (([z] : List Expr).length + ([] : List Keyword).length + (if ([] : List Keyword).isEmpty then 0 else 1) < 30)) = true := by
        rw [hs]; rfl
      refine PE.imp (pe_bm PySem.F.plainAttrs_tuple PySem.F.slot_tuple_index PySem.F.type_tuple_index mt_tup_index (pe_glob (ok.gl m1) (by rw [ok.O.mg]; exact h1) h2 n1) (pa_cons (h M W X _ m3 ok).1 pa_nil hs) (base_plain rfl _) hfew (by simpa using hl) hs rfl) fun σ H Q hh => ?_
      obtain ⟨ρ, S, g, re, rs, w⟩ := hh
      simp only [ev, e] at w
      refine ⟨.inr (.inl ⟨rfl, o, by rw [ok.O.K]; exact k1, k2, k3⟩), ?_⟩
      refine tE_mk re rs w.bind fun d1 S1 H1 g1 l1 rs1 w1 v1 q1 => ?_
      obtain ⟨d, e0, w1⟩ := w1.ofO
      unfold gidxD at e0
      split at e0
      · rename_i z0
        obtain ⟨zs, e1, e2⟩ := Option.bind_eq_some_iff.mp e0
        obtain ⟨n, e3, e4⟩ := Option.map_eq_some_iff.mp e2
        subst e4
        cases rep_str q1
        obtain ⟨p', vs, ea, ra, ta⟩ := rep_tup rs1 ((h3 g1))
        cases ea
        have hv := strs_rep ra e1
        subst hv
        obtain ⟨f1, f2, f3⟩ := List.findIdx?_eq_some_iff_getElem.mp e3
        refine ⟨a, zs, z0, n, rfl, rfl, by rw [ok.O.K]; exact ta, ?_, fun m hm he => ?_, w1 H1 g1 (.refl _) rs1 _ (.int _)⟩
        · rw [List.getElem?_eq_getElem f1, eq_of_beq f2]
        · have := f3 m hm
          obtain ⟨hm2, hm3⟩ := List.getElem?_eq_some_iff.mp he
          rw [hm3] at this
          simp at this
      · cases e0
    | _ => exact pe_none _ fun ρ S => by simp only [ev, e]
  · cases m

/-- isinstance of an exception, with a dict or without -/
theorem call_isA {X : L2.Cx} : CallR X (.builtin "isinstance") (fun xs H Q => ∃ (a D : Addr) (t : V) (tv : Value) (b : Bool), xs = [.ref a, t] ∧ (∀ u, RelV t u → u = tv) ∧ (H a = some (ExcA D a) ∨ ∃ dd fs, H a = some (exo a D (some dd)) ∧ H dd = some (exd dd fs)) ∧ ExcC X.K D ∧ PySem.W.kitOne X.K (.ref D) tv = some b ∧ Q (.bl b) H) := by
  intro pins s σ H xs us Q I rv h
  obtain ⟨a, D, t, tv, b, e, ht, ha | ⟨dd, fs, ha, hd⟩, hC, hk, q⟩ := h
  · exact call_isX pins s σ H xs us Q I rv ⟨a, D, t, tv, b, e, ht, ha, hC, hk, q⟩
  · exact call_isP pins s σ H xs us Q I rv ⟨a, D, dd, fs, t, tv, b, e, ht, ha, hd, hC, hk, q⟩
theorem s_isE (hC : CxOk c k C) (u : Str) {a : E} (h : Snd c k C a) : Snd c k C (.isE a u) := .of fun M W X x m ok => by
  simp only [mtE] at m
  split at m
  · rename_i y p z v pv q
    simp only [Bool.and_eq_true, beq_iff_eq] at m
    obtain ⟨⟨⟨⟨⟨⟨rfl, m1⟩, m2⟩, rfl⟩, m3⟩, m4⟩, m5⟩ := m
    have hpl : ∀ {pos : Pos}, (backTo pos (starEach [.Name u pv] X.env)).any (·.1) = false := rfl
    refine ⟨?_, rfl⟩
    cases he : C.exc u with
    | false => exact pe_none _ fun ρ S => by simp [ev, he]
    | true =>
      obtain ⟨Cu, h1⟩ := (hC.exc u he).cl
      have n1 : (u == ("__debug__" : Str)) = false := by
        simp only [okName, Bool.and_eq_true, Bool.not_eq_true'] at m4
        exact m4.1.1
      have p2 : PE X (.Name u pv) (tC (.ref Cu)) := pe_glob (ok.gl m3) (by rw [ok.O.mg]; exact h1) rfl n1
      refine PE.imp (pe_callB (call_isA (X := X)) (ok.gl m1) (ok.mgN hC (by show ("isinstance" : Str) ∈ _; decide +kernel)) boot_isinstance (pa_cons (h M W X _ m5 ok).1 (pa_cons p2 pa_nil rfl) (star_plain m2)) (by show ("isinstance" : Str) ≠ _; decide +kernel) (by show (("isinstance" : Str) == _) = false; decide +kernel) (star_plain m2) hpl) fun σ H Q hh => ?_
      obtain ⟨ρ, S, g, re, rs, w⟩ := hh
      simp only [ev, he, if_true] at w
      refine tE_mk re rs w.bind fun d1 S1 H1 g1 l1 rs1 w1 v1 q1 => ?_
      cases d1 with
      | exc y ds =>
        dsimp only at w1
        split at w1
        · rename_i hy
          cases q1 with
          | @exc _ a Cy _ k1 kp k2 =>
            exact ⟨a, Cy, .ref Cu, .ref Cu, y == u || u == ("FlushError" : Str), rfl, fun _ e => e, .inl (rs1.sub _ _ k2), by rw [ok.O.K]; exact (hC.exc y hy).isc Cy k1, by rw [ok.O.K]; exact hC.pair y u Cy Cu hy he k1 h1, w1 H1 g1 (.refl _) rs1 _ (.bl _)⟩
          | @exl _ a Cy dd _ k1 kp k2 k3 =>
            exact ⟨a, Cy, .ref Cu, .ref Cu, y == u || u == ("FlushError" : Str), rfl, fun _ e => e, .inr ⟨dd, _, rs1.sub _ _ k2, rs1.sub _ _ k3⟩, by rw [ok.O.K]; exact (hC.exc y hy).isc Cy k1, by rw [ok.O.K]; exact hC.pair y u Cy Cu hy he k1 h1, w1 H1 g1 (.refl _) rs1 _ (.bl _)⟩
        · exact w1.elim
      | _ => exact w1.elim
  · cases m

theorem s_isV (hC : CxOk c k C) {a : E} (h : Snd c k C a) : Snd c k C (.isV a) := .of fun M W X x m ok => by
  simp only [mtE] at m
  split at m
  · rename_i y p z v pv q
    simp only [Bool.and_eq_true, beq_iff_eq] at m
    obtain ⟨⟨⟨⟨⟨rfl, m1⟩, m2⟩, rfl⟩, m3⟩, m5⟩ := m
    have hpl : ∀ {pos : Pos}, (backTo pos (starEach [.Name "ValueError" pv] X.env)).any (·.1) = false := rfl
    have p2 : PE X (.Name "ValueError" pv) (tC (.ty "ValueError")) := pe_bltn (ok.gl m3) (ok.mgN hC (by show ("ValueError" : Str) ∈ _; decide +kernel)) (by decide +kernel) rfl (by decide) (by decide)
    refine ⟨PE.imp (pe_callB (call_isA (X := X)) (ok.gl m1) (ok.mgN hC (by show ("isinstance" : Str) ∈ _; decide +kernel)) boot_isinstance (pa_cons (h M W X _ m5 ok).1 (pa_cons p2 pa_nil rfl) (star_plain m2)) (by show ("isinstance" : Str) ≠ _; decide +kernel) (by show (("isinstance" : Str) == _) = false; decide +kernel) (star_plain m2) hpl) fun σ H Q hh => ?_, rfl⟩
    obtain ⟨ρ, S, g, re, rs, w⟩ := hh
    simp only [ev] at w
    refine tE_mk re rs w.bind fun d1 S1 H1 g1 l1 rs1 w1 v1 q1 => ?_
    cases d1 with
    | exc y ds =>
      dsimp only at w1
      split at w1
      · rename_i hy
        cases q1 with
        | @exc _ a Cy _ k1 kp k2 =>
          exact ⟨a, Cy, .ty "ValueError", .type "ValueError", true, rfl, fun _ e => e, .inl (rs1.sub _ _ k2), by rw [ok.O.K]; exact (hC.exc y hy).isc Cy k1, by rw [ok.O.K]; exact (hC.exc y hy).ve Cy k1, w1 H1 g1 (.refl _) rs1 _ (.bl _)⟩
        | @exl _ a Cy dd _ k1 kp k2 k3 =>
          exact ⟨a, Cy, .ty "ValueError", .type "ValueError", true, rfl, fun _ e => e, .inr ⟨dd, _, rs1.sub _ _ k2, rs1.sub _ _ k3⟩, by rw [ok.O.K]; exact (hC.exc y hy).isc Cy k1, by rw [ok.O.K]; exact (hC.exc y hy).ve Cy k1, w1 H1 g1 (.refl _) rs1 _ (.bl _)⟩
      · exact w1.elim
    | _ => exact w1.elim
  · cases m
/-- a new exception, its object told as little as Rep wants -/
theorem exA_of {X : L2.Cx} {pins : List (Addr × Obj)} {σ : L2.St} {H : Hp} {s : Shared} {p D : Addr} (I : Inv X pins σ (upd H p (ExO (.ref D) p)) s) : Inv X pins σ (upd H p (ExcA D p)) s := by
  obtain ⟨⟨oe, vs, h1, h2, h3, _⟩, _⟩ := I.hok p _ upd_same
  have J := d_write I (h' := s.heap) (t' := s.toks) (ob := ExcA D p) (by rw [upd_same]; exact True.intro) (Heap.SameBut.refl _ _) ⟨_, h1⟩ ⟨⟨oe, vs, h1, h2, h3⟩, ⟨oe, h1⟩, fun _ _ ⟨o, v, q, r⟩ k => ⟨o, v, k o q, r⟩⟩
  rw [upd_same2] at J
  exact J
theorem parD_some {ds : List D} {d : D} (h : parD ds = some d) : ∃ i, ds = [.int i] ∧ i.natAbs.log2 < 1920 ∧ d = .exc "ParseError" [.int i] := by
  unfold parD at h
  split at h
  · split at h
    · rename_i hi
      cases h
      exact ⟨_, rfl, hi, rfl⟩
    · cases h
  · cases h
/-- its two objects are laid -/
theorem par_lay {W : WX} {σ : L2.St} {g : G} {S : Store} {H : Hp} {C : Addr} {i : Int} {Q : VK} (rs : RelS c g S H) (hm : c.mg "ParseError" = some (.ref C)) (w : wR c W σ g (fun d _ H' g' => ∀ v, Rep c g' d v → Q v H') (.ok (.exc "ParseError" [.int i]) S)) :
    ∀ a dd, H a = none → H dd = none → dd ≠ a → Q (.ref a) (upd (upd H dd (exd dd [("line", .int i)])) a (exo a C (some dd))) := fun a dd ha hd ne => by
  obtain ⟨l1, r1⟩ := rs.fresh (o := exd dd [("line", .int i)]) hd (fun ps z => HO.noConfusion (show (HO.ext _ : HO) = .tbl ps from z))
  have ha' : upd H dd (exd dd [("line", .int i)]) a = none := by rw [upd_ne (Ne.symm ne)]; exact ha
  obtain ⟨l2, r2⟩ := r1.fresh (o := exo a C (some dd)) ha' (fun ps z => HO.noConfusion (show (HO.ext _ : HO) = .tbl ps from z))
  refine w _ _ (l1.trans l2) r2 _ (.exl hm (by decide) upd_same ?_)
  show upd (upd g.F dd _) a _ dd = _
  rw [upd_ne ne, upd_same]
theorem s_new (hC : CxOk c k C) (u : Str) {es : Es} (ih : ∀ e, es = .cons e .nil → Snd c k C e) : Snd c k C (.new u es) := .of fun M W X x m ok => by
  have hes : ∃ e, es = .cons e .nil := by
    cases es with
    | nil => simp [mtE] at m
    | star _ _ => simp [mtE] at m
    | cons e r =>
      cases r with
      | nil => exact ⟨e, rfl⟩
      | cons _ _ => simp [mtE] at m
      | star _ _ => simp [mtE] at m
  obtain ⟨e, rfl⟩ := hes
  unfold mtE at m
  split at m
  · rename_i e0 y p z q he0
    cases he0
    simp only [Bool.and_eq_true, beq_iff_eq] at m
    obtain ⟨⟨⟨⟨rfl, m1⟩, m2⟩, m3⟩, m4⟩ := m
    obtain ⟨n1, n2, n3⟩ := okName_of m2
    have pe := (ih e rfl M W X z m4 ok).1
    have hs := star_plain (env := X.env) (es := []) m3
    refine ⟨?_, rfl⟩
    cases he : C.exc u with
    | false => exact pe_none _ fun ρ S => by simp [ev, he]
    | true =>
      obtain ⟨Cu, h1⟩ := (hC.exc u he).cl
      have hmg : X.mg u = some (.ref Cu) := by rw [ok.O.mg]; exact h1
      cases hp : isPE u with
      | true =>
        obtain ⟨fI, j1, j2, j3, j4, j5, j6, j7, j8⟩ := ((hC.exc u he).pm hp Cu h1).ex
        obtain rfl : u = "ParseError" := by simpa [isPE] using hp
        refine PE.imp (pe_par (k := k) (by rw [ok.O.P, ok.O.K]; exact j1) (by rw [ok.O.K]; exact j2) (by rw [ok.O.K]; exact j3) (by rw [ok.O.K]; exact j4) (by rw [ok.O.K]; exact j5) (by rw [ok.O.K]; exact j7) ok.room (ok.gl m1) hmg pe hs n1) fun σ H Q hh => ?_
        obtain ⟨ρ, S, g, re, rs, w⟩ := hh
        simp only [ev, he, hp, if_true, evs] at w
        refine tE_mk re rs w.bind.bind fun d1 S1 H1 g1 l1 rs1 w1 v1 q1 => ?_
        simp only [R.bind_ok] at w1
        have w2 := w1 H1 g1 (.refl _) rs1
        obtain ⟨d, e2, w3⟩ := w2.ofO
        obtain ⟨i, e3, hi, rfl⟩ := parD_some e2
        simp only [List.cons.injEq, and_true] at e3
        subst e3
        cases rep_int q1
        exact ⟨i, rfl, hi, par_lay rs1 h1 w3⟩
      | false =>
        obtain ⟨a1, a2, a3, a4⟩ := (hC.exc u he).mak hp Cu h1
        refine ⟨fun pins s σ H Q I hh => ?_⟩
        obtain ⟨ρ, S, g, re, rs, w⟩ := hh
        simp only [ev, he, hp, if_true, evs, Bool.false_eq_true, if_false] at w
        refine wpAny_mono ((pe_exc1 (ta := tE c W (ev C e)) (pos := q) (p := p) PySem.F.excBase_ValueError (by rw [ok.O.K]; exact a1) hmg (by rw [ok.O.K]; exact a2) (ok.gl m1) pe hs n1).run pins s σ H (fun v H1 => ∃ p H0, v = .ref p ∧ H1 = upd H0 p (ExO (.ref Cu) p) ∧ Q (.ref p) (upd H0 p (ExcA Cu p))) I ?_) (fun uu s1 ⟨v, H1, I1, r1, p, H0, e1, e2, qq⟩ => ?_) fun _ _ z => z
        · refine tE_mk re rs w.bind.bind fun d1 S1 H1 g1 l1 rs1 w1 v1 q1 a ha => ⟨a, H1, rfl, rfl, ?_⟩
          simp only [R.bind_ok] at w1
          have w2 := w1 H1 g1 (.refl _) rs1
          obtain ⟨l2, r2⟩ := rs1.fresh (o := ExcA Cu a) ha (fun ps z => HO.noConfusion (show (HO.ext _ : HO) = .tbl ps from z))
          exact w2 _ _ l2 r2 _ (.exc h1 hp upd_same)
        · subst e1 e2
          exact ⟨.ref p, _, exA_of I1, r1, qq⟩
  · cases m
theorem s_fld (hC : CxOk c k C) (f : Str) {e : E} (ih : Snd c k C e) : Snd c k C (.fld e f) := .of fun M W X x m ok => by
  simp only [mtE] at m
  split at m
  · rename_i y n q
    simp only [Bool.and_eq_true, beq_iff_eq] at m
    obtain ⟨⟨rfl, m1⟩, m2⟩ := m
    have pe := (ih M W X y m2 ok).1
    refine ⟨?_, rfl⟩
    cases hg : (C.exc "ParseError" && f == ("line" : Str)) with
    | false => exact pe_none _ fun ρ S => by simp [ev, hg]
    | true =>
      have hg' := hg
      simp only [Bool.and_eq_true, beq_iff_eq] at hg'
      obtain ⟨he, rfl⟩ := hg'
      obtain ⟨Cu, h1⟩ := (hC.exc _ he).cl
      obtain ⟨fI, j1, j2, j3, j4, j5, j6, j7, j8⟩ := ((hC.exc _ he).pm (by decide) Cu h1).ex
      refine PE.imp (pe_line (C := Cu) (by rw [ok.O.K]; exact j6) (by rw [ok.O.K]; exact j3) pe (base_plain m1 _)) fun σ H Q hh => ?_
      obtain ⟨ρ, S, g, re, rs, w⟩ := hh
      simp only [ev, hg, if_true] at w
      refine tE_mk re rs w.bind fun d1 S1 H1 g1 l1 rs1 w1 v1 q1 => ?_
      obtain ⟨d, e2, w3⟩ := w1.ofO
      unfold lineD at e2
      split at e2
      · rename_i xx dd0
        split at e2
        · rename_i hx
          rw [Bool.and_eq_true] at hx
          cases e2
          cases q1 with
          | exc k1 kp k2 => rw [kp] at hx; exact absurd hx.1 (by simp)
          | @exl _ a Cy dd i k1 kp k2 k3 =>
            have ex : xx = "ParseError" := by simpa [isPE] using kp
            rw [ex, h1] at k1
            cases k1
            exact ⟨a, dd, _, .int i, rfl, rs1.sub _ _ k2, rs1.sub _ _ k3, by simp, w3 H1 g1 (.refl _) rs1 _ (.int i)⟩
        · cases e2
      · cases e2
  · cases m
theorem s_newK (hC : CxOk c k C) (u f : Str) {e : E} (ih : Snd c k C e) : Snd c k C (.newK u f e) := .of fun M W X x m ok => by
  simp only [mtE] at m
  split at m
  · rename_i y p n z kp q
    simp only [Bool.and_eq_true, beq_iff_eq] at m
    obtain ⟨⟨⟨⟨rfl, m1⟩, m2⟩, rfl⟩, m4⟩ := m
    obtain ⟨n1, n2, n3⟩ := okName_of m2
    have pe := (ih M W X z m4 ok).1
    refine ⟨?_, rfl⟩
    cases hg : (C.exc u && isPE u && f == ("line" : Str)) with
    | false => exact pe_none _ fun ρ S => by simp [ev, hg]
    | true =>
      have hg' := hg
      simp only [Bool.and_eq_true, beq_iff_eq] at hg'
      obtain ⟨⟨he, hp⟩, rfl⟩ := hg'
      obtain ⟨Cu, h1⟩ := (hC.exc u he).cl
      have hmg : X.mg u = some (.ref Cu) := by rw [ok.O.mg]; exact h1
      obtain ⟨fI, j1, j2, j3, j4, j5, j6, j7, j8⟩ := ((hC.exc u he).pm hp Cu h1).ex
      obtain rfl : u = "ParseError" := by simpa [isPE] using hp
      refine PE.imp (pe_parK (k := k) (by rw [ok.O.P, ok.O.K]; exact j1) (by rw [ok.O.K]; exact j2) (by rw [ok.O.K]; exact j3) (by rw [ok.O.K]; exact j4) (by rw [ok.O.K]; exact j5) (by rw [ok.O.K]; exact j8) ok.room (ok.gl m1) hmg (pk_cons pe pk_nil) rfl rfl n1 rfl) fun σ H Q hh => ?_
      obtain ⟨ρ, S, g, re, rs, w⟩ := hh
      simp only [ev, hg, if_true] at w
      refine tE_mk re rs w.bind fun d1 S1 H1 g1 l1 rs1 w1 v1 q1 => ?_
      obtain ⟨d, e2, w3⟩ := w1.ofO
      obtain ⟨i, e3, hi, rfl⟩ := parD_some e2
      simp only [List.cons.injEq, and_true] at e3
      subst e3
      cases rep_int q1
      exact ⟨i, rfl, hi, par_lay rs1 h1 w3⟩
  · cases m
mutual
theorem sndE (hC : CxOk c k C) : ∀ e : E, Snd c k C e
  | .var i => s_var i
  | .glob x => s_glob hC x
  | .k q => s_k q
  | .tup es => s_tup (sndA hC es)
  | .lst live es => s_lst live (sndA hC es)
  | .dct live ks vs => s_dct live ks vs
  | .comp live elt tg one it ifs own => s_comp live tg one own (sndE hC elt) (sndI hC it) (sndIfs hC ifs)
  | .comp2 live elt tg one it tg2 one2 it2 own own2 => s_comp2 live tg one tg2 one2 own own2 (sndE hC elt) (sndI hC it) (sndI hC it2)
  | .dcomp .. => snd_none fun _ _ => by simp [mtE]
  | .bin live op a b => s_bin live op (sndE hC a) (sndE hC b)
  | .rep live es b => s_rep live (sndA hC es) (sndE hC b)
  | .neg a => s_neg (sndE hC a)
  | .not a => s_not (sndE hC a)
  | .and es => s_and (sndA hC es)
  | .or es => s_or (sndA hC es)
  | .cmp op a b => s_cmp op (sndE hC a) (sndE hC b)
  | .cmp2 o1 o2 a b e => s_cmp2 o1 o2 (sndE hC a) (sndE hC b) (sndE hC e)
  | .ifx e a b => s_ifx (sndE hC e) (sndE hC a) (sndE hC b)
  | .sub a i => s_sub (sndE hC a) (sndE hC i)
  | .gidx x i => s_gidx hC x (sndE hC i)
  | .slice live a lo hi => s_slice live (sndE hC a) (sndO hC lo) (sndO hC hi)
  | .rev live a => s_rev live (sndE hC a)
  | .call f es => s_call hC f (sndA hC es)
  | .callB b live (.cons e .nil) => s_callB hC b live (sndA hC (.cons e .nil)) fun e' he => by cases he; exact sndE hC e
  | .callB b live .nil => s_callB hC b live (sndA hC .nil) fun e' he => by cases he
  | .callB b live (.star e r) => s_callB hC b live (sndA hC (.star e r)) fun e' he => by cases he
  | .callB b live (.cons e (.cons e2 r)) => s_callB hC b live (sndA hC (.cons e (.cons e2 r))) fun e' he => by cases he
  | .callB b live (.cons e (.star e2 r)) => s_callB hC b live (sndA hC (.cons e (.star e2 r))) fun e' he => by cases he
  | .meth m o es => s_meth m (sndE hC o) (sndA hC es)
  | .isE a u => s_isE hC u (sndE hC a)
  | .isV a => s_isV hC (sndE hC a)
  | .newK u f e => s_newK hC u f (sndE hC e)
  | .fld e f => s_fld hC f (sndE hC e)
  | .callM .. => snd_none fun _ _ => by simp [mtE]
  | .new u es => s_new hC u (fun e h => by subst h; exact sndE hC e)
  | .callV .. => snd_none fun _ _ => by simp [mtE]
  | .act => snd_none fun _ _ => by simp [mtE]
  | .callL f b => hC.lam f b
theorem sndA (hC : CxOk c k C) : ∀ es : Es, SndA c k C es
  | .nil => a_nil
  | .cons e r => a_cons (sndE hC e) (sndA hC r)
  | .star e r => a_star (sndE hC e) (sndA hC r)
theorem sndO (hC : CxOk c k C) : ∀ o : O, SndO c k C o
  | .non => o_non
  | .som e => o_som (sndE hC e)
theorem sndI (hC : CxOk c k C) : ∀ i : I, SndI c k C i
  | .seq e => i_seq (sndE hC e)
  | .range e => i_range hC (sndE hC e)
  | .range2 .. => i_none fun _ _ _ => by simp [mtI]
  | .enum .. => i_none fun _ _ _ => by simp [mtI]
  | .zip2 .. => i_none fun _ _ _ => by simp [mtI]
  | .zip3 .. => i_none fun _ _ _ => by simp [mtI]
  | .keys .. => i_none fun _ _ _ => by simp [mtI]
  | .items .. => i_none fun _ _ _ => by simp [mtI]
  | .values .. => i_none fun _ _ _ => by simp [mtI]
theorem sndIfs (hC : CxOk c k C) : ∀ es : Es, SndIfs c k C es
  | .nil => f_nil
  | .cons e r => f_cons (sndE hC e)
  | .star e r => f_star
end
end
end FT
end

section
set_option Elab.async false
set_option linter.all false
set_option maxRecDepth 100000
set_option autoImplicit false
/-! FT.Mast4: statements. -/
namespace FT
open PySem L2 LamX PyProof.Rows

section
variable {X : L2.Cx} {c : Cfg} {k : Nat} {M : Mc} {W : WX} {C : Cx} {g g' : G} {S : Store} {H : Hp} {σ : L2.St} {α : Type} {D D' : Ends}
theorem wRF.mono {r : RF} (h : g.le g') (w : wRF c W D g r) : wRF c W D g' r := by
  match r, w with
  | .ok (.nx, ρ) S', w => exact fun σ' H' g'' l => w σ' H' g'' (h.trans l)
  | .ok (.rt d, ρ) S', w => exact fun v H' g'' l => w v H' g'' (h.trans l)
  | .ok (.bk, ρ) S', w => exact fun σ' H' g'' l => w σ' H' g'' (h.trans l)
  | .ex d S', w => exact fun cls dx σ' H' g'' l => w cls dx σ' H' g'' (h.trans l)
theorem wRF.bindR {r : R α} {f : α → Store → RF} (w : wRF c W D g (r.bind f)) (σ : L2.St) : wR c W σ g (fun a S H' g' => wRF c W D g' (f a S)) r := by
  cases r with
  | ok a S => exact fun H' g' l s => wRF.mono l w
  | ex d S => exact fun cls dx H' g' l s e => w cls dx σ H' g' l s e
  | bad => exact w
/-- one run behind another -/
theorem wRF.bindF {r : RF} {f : Fl × Env → Store → RF} (w : wRF c W D g (r.bind f)) {N : L2.St → Hp → Prop} {T : VK} {B : L2.St → Hp → Prop}
    (hn : ∀ ρ S, r = .ok (.nx, ρ) S → wRF c W D g (f (.nx, ρ) S) → ∀ σ' H' g', g.le g' → RelS c g' S H' → RelE c g' ρ σ' → N σ' H')
    (hr : ∀ d ρ S, r = .ok (.rt d, ρ) S → wRF c W D g (f (.rt d, ρ) S) → ∀ v H' g', g.le g' → RelS c g' S H' → Rep c g' d v → T v H')
    (hb : ∀ ρ S, r = .ok (.bk, ρ) S → wRF c W D g (f (.bk, ρ) S) → ∀ σ' H' g', g.le g' → RelS c g' S H' → RelE c g' ρ σ' → B σ' H') {ct : L2.St → Hp → Prop} :
    wRF c W { nx := N, rt := T, bk := B, ct := ct } g r := by
  match r, w with
  | .ok (.nx, ρ) S', w => exact hn ρ S' rfl w
  | .ok (.rt d, ρ) S', w => exact hr d ρ S' rfl w
  | .ok (.bk, ρ) S', w => exact hb ρ S' rfl w
  | .ex d S', w => exact w
/-- a store into a target -/
def wRE (c : Cfg) (W : WX) (g : G) (Q : L2.St → Hp → Prop) : R Env → Prop
  | .ok ρ' S' => ∀ σ' H' g', g.le g' → RelS c g' S' H' → RelE c g' ρ' σ' → Q σ' H'
  | .ex d S' => ∀ cls dx σ' H' g', g.le g' → RelS c g' S' H' → ExcR c d cls dx → W cls dx σ' H'
  | .bad => False
theorem wRE.mono {Q : L2.St → Hp → Prop} {r : R Env} (h : g.le g') (w : wRE c W g Q r) : wRE c W g' Q r := by
  cases r with
  | ok a S => exact fun σ' H' g'' l => w σ' H' g'' (h.trans l)
  | ex d S => exact fun cls dx σ' H' g'' l => w cls dx σ' H' g'' (h.trans l)
  | bad => exact w
theorem wRE.bindR {Q : L2.St → Hp → Prop} {r : R α} {f : α → Store → R Env} (w : wRE c W g Q (r.bind f)) (σ : L2.St) : wR c W σ g (fun a S H' g' => wRE c W g' Q (f a S)) r := by
  cases r with
  | ok a S => exact fun H' g' l s => wRE.mono l w
  | ex d S => exact fun cls dx H' g' l s e => w cls dx σ H' g' l s e
  | bad => exact w
theorem wRE.bindE {Q : L2.St → Hp → Prop} {r : R Env} {f : Env → Store → R Env} (w : wRE c W g Q (r.bind f)) : wRE c W g (fun σ' H' => ∃ ρ' S' g', g.le g' ∧ RelS c g' S' H' ∧ RelE c g' ρ' σ' ∧ wRE c W g' Q (f ρ' S')) r := by
  cases r with
  | ok a S => exact fun σ' H' g' l s e => ⟨a, S, g', l, s, e, wRE.mono l w⟩
  | ex d S => exact w
  | bad => exact w
theorem wRE.imp {Q Q' : L2.St → Hp → Prop} {r : R Env} (w : wRE c W g Q r) (h : ∀ σ H, Q σ H → Q' σ H) : wRE c W g Q' r := by
  cases r with
  | ok a S => exact fun σ' H' g' l s e => h _ _ (w σ' H' g' l s e)
  | ex d S => exact w
  | bad => exact w
theorem wRE.of {r : R Env} (w : wRF c W D g (r.bind fun ρ S => .ok (.nx, ρ) S)) : wRE c W g D.nx r := by
  cases r with
  | ok a S => exact w
  | ex d S => exact w
  | bad => exact w
def gT (c : Cfg) (W : WX) (f : FT.D → Env → Store → R Env) : TG := fun v σ H Q => ∃ ρ S g d, RelE c g ρ σ ∧ RelS c g S H ∧ Rep c g d v ∧ wRE c W g Q (f d ρ S)
def gTs (c : Cfg) (W : WX) (f : List FT.D → Env → Store → R Env) : TGs := fun vs σ H Q => ∃ ρ S g ds, RelE c g ρ σ ∧ RelS c g S H ∧ RepAll c g ds vs ∧ wRE c W g Q (f ds ρ S)
end

section
variable {c : Cfg} {k : Nat} {C : Cx}
def SndT (c : Cfg) (k : Nat) (C : Cx) (t : T) : Prop := ∀ (M : Mc) (W : WX) (X : L2.Cx) (x : Expr), mtT M t x = true → Okx c k M W X → PG X x (gT c W (asgT C t))
def SndTs (c : Cfg) (k : Nat) (C : Cx) (ts : Ts) : Prop := ∀ (M : Mc) (W : WX) (X : L2.Cx) (xs : List Expr), mtTs M ts xs = true → Okx c k M W X →
  PGs X xs (gTs c W (asgTs C ts)) ∧ (assignEach xs X.env).length = lenTs ts ∧ (assignEach xs X.env).findIdx? (·.1) = none
theorem t_var (i : Nat) : SndT c k C (.var i) := fun M W X x m ok => by
  simp only [mtT] at m
  refine PG.imp (pg_nm ok m) fun v σ H Q hh => ?_
  obtain ⟨ρ, S, g, d, re, rs, q, w⟩ := hh
  exact w _ H g (.refl _) rs (re.set q i)
theorem set_unit {W : WX} {g : G} {ρ : Env} {S : Store} {x y d : D} {Q : L2.St → Hp → Prop} {σ : L2.St} (re : RelE c g ρ σ) (w : wRE c W g Q ((setD x y d S).bind fun _ S => .ok ρ S)) : WantsU c g (fun H => Q σ H) (setD x y d S) := by
  have hn : ∀ d' S', setD x y d S ≠ .ex d' S' := fun d' S' => by
    unfold setD
    repeat' split
    all_goals simp
  cases hr : setD x y d S with
  | ok u S' =>
    rw [hr] at w
    exact fun H' g' l s => w σ H' g' l s (re.mono l.tolt)
  | ex d' S' => exact (hn _ _ hr).elim
  | bad => rw [hr] at w; exact w
theorem t_sub (hC : CxOk c k C) (o i : E) : SndT c k C (.sub o i) := fun M W X x m ok => by
  simp only [mtT] at m
  split at m
  · rename_i y z p
    simp only [Bool.and_eq_true] at m
    obtain ⟨⟨m0, m1⟩, m2⟩ := m
    refine PG.imp (pg_sub (sndE hC o M W X y m1 ok).1 (sndE hC i M W X z m2 ok).1 (set_itemD (c := c) ok.O ok.un) (fun _ => by cases z <;> first | rfl | cases m0)) fun v σ H Q hh => ?_
    obtain ⟨ρ, S, g, d, re, rs, q, w⟩ := hh
    simp only [asgT] at w
    refine tE_mk re rs (w.bindR σ) fun d1 S1 H1 g1 l1 rs1 w1 v1 q1 => ?_
    refine tE_mk (re.mono l1.tolt) rs1 (w1.bindR σ) fun d2 S2 H2 g2 l2 rs2 w2 v2 q2 => ?_
    exact ⟨d1, d2, d, S2, g2, rs2, q1.mono l2.tolt, q2, (q.mono l1.tolt).mono l2.tolt, set_unit ((re.mono l1.tolt).mono l2.tolt) w2⟩
  · cases m
theorem t_tup {ts : Ts} (h : SndTs c k C ts) : SndT c k C (.tup ts) := fun M W X x m ok => by
  simp only [mtT] at m
  split at m
  · obtain ⟨h1, h2, h3⟩ := h M W X _ m ok
    refine PG.imp (pg_tup ok.calm h1 h2 h3) fun v σ H Q hh => ?_
    obtain ⟨ρ, S, g, d, re, rs, q, w⟩ := hh
    simp only [asgT] at w
    split at w
    · split at w
      · rename_i hl
        obtain ⟨a, vs, rfl, ra, ta⟩ := rep_tup rs q
        exact ⟨a, vs, rfl, by rw [ok.O.K]; exact ta, by rw [← ra.length]; exact hl, ρ, S, g, _, re, rs, ra, w⟩
      · exact w.elim
    · exact w.elim
  · cases m
theorem ts_nil : SndTs c k C .nil := fun M W X xs m ok => by
  simp only [mtTs, List.isEmpty_iff] at m
  subst m
  refine ⟨PGs.imp pgs_nil fun vs σ H Q hh => ?_, rfl, rfl⟩
  obtain ⟨ρ, S, g, ds, re, rs, q, w⟩ := hh
  cases q with
  | nil => exact ⟨rfl, w σ H g (.refl _) rs re⟩
  | cons _ _ => exact w.elim
theorem ts_cons {t : T} {r : Ts} (h1 : SndT c k C t) (h2 : SndTs c k C r) : SndTs c k C (.cons t r) := fun M W X xs m ok => by
  cases xs with
  | nil => simp [mtTs] at m
  | cons y ys =>
    simp only [mtTs, Bool.and_eq_true] at m
    obtain ⟨⟨m0, m1⟩, m2⟩ := m
    obtain ⟨r1, r2, r3⟩ := h2 M W X ys m2 ok
    have e := asg_cons (env := X.env) (es := ys) m0
    refine ⟨PGs.imp (pgs_cons (h1 M W X y m1 ok) r1 (by rw [e]; rfl)) fun vs σ H Q hh => ?_, by rw [e]; simp [r2, lenTs], by rw [e]; simp [List.findIdx?_cons, r3]⟩
    obtain ⟨ρ, S, g, ds, re, rs, q, w⟩ := hh
    cases q with
    | nil => exact w.elim
    | cons q qs =>
      simp only [asgTs] at w
      exact ⟨_, _, rfl, ρ, S, g, _, re, rs, q, w.bindE.imp fun σ' H' ⟨ρ', S', g', l, s, e, w'⟩ => ⟨ρ', S', g', _, e, s, qs.mono l.tolt, w'⟩⟩
mutual
theorem sndT (hC : CxOk c k C) : ∀ t : T, SndT c k C t
  | .var i => t_var i
  | .sub o i => t_sub hC o i
  | .fld _ _ => fun M W X x m _ => by simp [mtT] at m
  | .tup ts => t_tup (sndTs hC ts)
theorem sndTs (hC : CxOk c k C) : ∀ ts : Ts, SndTs c k C ts
  | .nil => ts_nil
  | .cons t r => ts_cons (sndT hC t) (sndTs hC r)
end

/-! ### statements -/
def SndS (c : Cfg) (k : Nat) (C : Cx) (st : St) : Prop := ∀ (M : Mc) (W : WX) (X : L2.Cx) (x : Stmt), mtSt M st x = true → Okx c k M W X → PS X x (tS c W (exec C st))
def SndSs (c : Cfg) (k : Nat) (C : Cx) (ss : Ss) : Prop := ∀ (M : Mc) (W : WX) (X : L2.Cx) (xs : List Stmt), mtSs M ss xs = true → Okx c k M W X → PSs X xs (tS c W (execs C ss))
theorem kind_of {X : L2.Cx} {M : Mc} {W : WX} (ok : Okx c k M W X) {pins : List (Addr × Obj)} {σ : L2.St} {H : Hp} {s : Shared} (I : Inv X pins σ H s) : M.sc.kind = .function := by
  rw [← ok.sc]; exact I.ok.kind
theorem comp_only {M : Mc} {e : E} {y : Expr} {gs : List Comprehension} {sc : Scope} {p : Pos} (m : mtE M e (.ListComp y gs sc p) = true) (hl : gs.length = 1) : ∃ live elt tg one it ifs own, e = .comp live elt tg one it ifs own := by
  cases e <;> first | exact ⟨_, _, _, _, _, _, _, rfl⟩ | (simp [mtE, mtK] at m; done) | skip
  exfalso
  simp only [mtE] at m
  split at m
  · rename_i h
    cases h
    simp at hl
  · cases m
theorem mt_nocomp {M : Mc} {e : E} {v : Expr} (m : mtE M e v = true) : noComp v = true ∨ ∃ y gs s p, v = .ListComp y gs s p := by
  cases v with
  | ListComp y gs s p => exact .inr ⟨_, _, _, _, rfl⟩
  | SetComp a b d p => cases e <;> simp [mtE, mtK] at m
  | DictComp a b d e' p => cases e <;> simp [mtE, mtK] at m
  | _ => exact .inl rfl
theorem st_asg (hC : CxOk c k C) (t : T) (e : E) : SndS c k C (.asg t e) := fun M W X x m ok => by
  simp only [mtSt] at m
  split at m
  · rename_i y v pos
    simp only [Bool.and_eq_true] at m
    obtain ⟨⟨⟨⟨m0, m1⟩, m2⟩, m3⟩, m4⟩ := m
    refine ⟨fun pins s σ H D I hh => ?_⟩
    have hk := kind_of ok I
    by_cases hb : swB M.sc y v = true
    · cases v with
      | ListComp yy gs scope p =>
        cases y with
        | Name z pz =>
          obtain ⟨h1, h2⟩ := swaps_yes (n := pos.line) ok.sc hk hb
          obtain ⟨live, elt, tg, one, it, ifs, own, rfl⟩ := comp_only m3 (by simpa [oneGen] using m4)
          cases t with
          | var j =>
            simp only [mtT, mtName, Bool.and_eq_true] at m2
            simp only [mtE] at m3
            split at m3
            · rename_i y' t' i' fs' sc' p' heq
              cases heq
              simp only [Bool.and_eq_true] at m3
              obtain ⟨⟨⟨⟨⟨⟨n1, n2⟩, n3⟩, n4⟩, n5⟩, n6⟩, n7⟩ := m3
              have ho : ∀ j ∈ tg, j ∈ own := fun j hj => List.contains_iff_mem.mp (List.all_eq_true.mp n2 j hj)
              refine (comp_set (live := live) ok m2.1 h1 h2 n1 ho (sndI hC it M W X _ _ n4 ok) n5 (fun s H Ca cl fp => pg_B (ok.blk s H _ Ca cl fp) n3)
                (fun s H Ca cl fp => sndIfs hC ifs _ _ _ _ n6 (ok.blk s H _ Ca cl fp)) (fun s H Ca cl fp => (sndE hC elt _ _ _ _ n7 (ok.blk s H _ Ca cl fp)).1)).run pins s σ H D I ?_
              obtain ⟨ρ, S, g, re, rs, w⟩ := hh
              simp only [exec] at w
              exact tE_mk re rs (w.bindR σ) fun d1 S1 H1 g1 l1 rs1 w1 v1 q1 => w1 _ H1 g1 (.refl _) rs1 ((re.mono l1.tolt).set q1 j)
            · cases m3
          | sub _ _ => simp [mtT] at m2
          | fld _ _ => simp [mtT] at m2
          | tup _ => simp [mtT] at m2
        | _ => simp [swB] at hb
      | _ => cases y <;> simp [swB] at hb
    · have hb : swB M.sc y v = false := by simpa using hb
      have e1 := asg_cons (env := X.env) (es := []) m0
      refine (ps_asg (pos := pos) (sndE hC e M W X v m3 ok).1 (sndT hC t M W X y m2 ok) (swaps_no ok.sc hb (mt_nocomp m3)) (sw_one m1) (by rw [e1]; rfl)).run pins s σ H D I ?_
      obtain ⟨ρ, S, g, re, rs, w⟩ := hh
      simp only [exec] at w
      exact tE_mk re rs (w.bindR σ) fun d1 S1 H1 g1 l1 rs1 w1 v1 q1 => ⟨ρ, S1, g1, d1, re.mono l1.tolt, rs1, q1, wRE.of w1⟩
  · cases m
theorem st_expr (hC : CxOk c k C) (e : E) : SndS c k C (.expr e) := fun M W X x m ok => by
  simp only [mtSt] at m
  split at m
  · simp only [Bool.and_eq_true] at m
    refine PS.imp (ps_expr (sndE hC e M W X _ m.2 ok).1 (swaps_plain m.1)) fun D σ H hh => ?_
    obtain ⟨ρ, S, g, re, rs, w⟩ := hh
    simp only [exec] at w
    exact tE_mk re rs (w.bindR σ) fun d1 S1 H1 g1 l1 rs1 w1 v1 q1 => w1 σ H1 g1 (.refl _) rs1 (re.mono l1.tolt)
  · cases m
theorem st_ret (hC : CxOk c k C) (e : E) : SndS c k C (.ret e) := fun M W X x m ok => by
  simp only [mtSt] at m
  split at m
  · refine PS.imp (ps_ret (sndE hC e M W X _ m ok).1) fun D σ H hh => ?_
    obtain ⟨ρ, S, g, re, rs, w⟩ := hh
    simp only [exec] at w
    exact tE_mk re rs (w.bindR σ) fun d1 S1 H1 g1 l1 rs1 w1 v1 q1 => w1 v1 H1 g1 (.refl _) rs1 q1
  · cases m
theorem st_retN : SndS c k C .retN := fun M W X x m ok => by
  simp only [mtSt] at m
  split at m
  · refine PS.imp ps_retN fun D σ H hh => ?_
    obtain ⟨ρ, S, g, re, rs, w⟩ := hh
    exact w .non H g (.refl _) rs .non
  · cases m
theorem st_pass : SndS c k C .pass := fun M W X x m ok => by
  simp only [mtSt] at m
  split at m
  · refine PS.imp ps_pass fun D σ H hh => ?_
    obtain ⟨ρ, S, g, re, rs, w⟩ := hh
    exact w σ H g (.refl _) rs re
  · cases m
theorem st_brk : SndS c k C .brk := fun M W X x m ok => by
  simp only [mtSt] at m
  split at m
  · refine PS.imp ps_break fun D σ H hh => ?_
    obtain ⟨ρ, S, g, re, rs, w⟩ := hh
    exact w σ H g (.refl _) rs re
  · cases m
theorem st_ife (hC : CxOk c k C) (e : E) {a b : Ss} (ha : SndSs c k C a) (hb : SndSs c k C b) : SndS c k C (.ife e a b) := fun M W X x m ok => by
  simp only [mtSt] at m
  split at m
  · simp only [Bool.and_eq_true] at m
    refine PS.imp (ps_if (sndE hC e M W X _ m.1.1 ok).2 (ha M W X _ m.1.2 ok) (hb M W X _ m.2 ok)) fun D σ H hh => ?_
    obtain ⟨ρ, S, g, re, rs, w⟩ := hh
    simp only [exec] at w
    refine tT_mk re rs (w.bindR σ) fun d1 S1 H1 g1 l1 rs1 w1 => ?_
    cases d1 with
    | true => exact ⟨ρ, S1, g1, re.mono l1.tolt, rs1, w1⟩
    | false => exact ⟨ρ, S1, g1, re.mono l1.tolt, rs1, w1⟩
  · cases m
theorem st_raise (hC : CxOk c k C) (y : Str) (es : Es) : SndS c k C (.raise y es) := fun M W X x m ok => by
  unfold mtSt at m
  split at m
  · rename_i z pz mm j p2 p pos
    simp only [Bool.and_eq_true, beq_iff_eq] at m
    obtain ⟨⟨⟨rfl, m1⟩, m2⟩, m3⟩ := m
    obtain ⟨n1, n2, n3⟩ := okName_of m2
    split at m3
    · cases he : C.exc y with
      | false =>
        refine ⟨fun pins s σ H D I hh => ?_⟩
        obtain ⟨ρ, S, g, re, rs, w⟩ := hh
        simp [exec, he] at w
        exact w.elim
      | true =>
        obtain ⟨Ca, h1⟩ := (hC.exc y he).cl
        cases hp : isPE y with
        | true =>
          refine ⟨fun pins s σ H D I hh => ?_⟩
          obtain ⟨ρ, S, g, re, rs, w⟩ := hh
          simp [exec, he, hp] at w
          exact w.elim
        | false =>
        obtain ⟨h2, h3, h4, h5⟩ := (hC.exc y he).mak hp Ca h1
        refine PS.imp (ps_raise ok.calm ok.tk (pmk_own PySem.F.excBase_ValueError (by rw [ok.O.K]; exact h2) (by rw [ok.O.mg]; exact h1) (by rw [ok.O.K]; exact h3) (raises_own (by rw [ok.O.K]; exact h4) (by rw [ok.O.K]; exact h5)) (ok.gl m1) n1)) fun D σ H hh => ?_
        obtain ⟨ρ, S, g, re, rs, w⟩ := hh
        simp only [exec, he, hp, Bool.not_false, Bool.and_self, if_true, evs, ev, R.bind_ok] at w
        exact w (.ref Ca) none σ H g (.refl _) rs ⟨Ca, h1, rfl, rfl, hp⟩
    · cases m3
  · cases m
def bodyF (C : Cx) (tg : List Nat) (one : Bool) (body : Ss) (d : D) (ρ : Env) (S : Store) : RF := match bindE ρ tg one d with
  | some ρ => execs C body ρ S
  | none => .bad
theorem st_forr (hC : CxOk c k C) (tg : List Nat) (one : Bool) (it : I) {body : Ss} (hb : SndSs c k C body) : SndS c k C (.forr tg one it body) := fun M W X x m ok => by
  simp only [mtSt] at m
  split at m
  · rename_i t i b pos
    simp only [Bool.and_eq_true] at m
    obtain ⟨⟨⟨m1, m2⟩, m3⟩, m4⟩ := m
    refine PS.imp (ps_for ok.po ok.calm (sndI hC it M W X t i m3 ok) (pg_B ok m1) (hb M W X _ m4 ok) (folded_plain m2)) fun D σ H hh => ?_
    obtain ⟨ρ, S, g, re, rs, w⟩ := hh
    have w : wRF c W D g ((evI C it ρ S).bind fun ds S => forL (bodyF C tg one body) ds ρ S) := w
    refine ⟨ρ, S, g, re, rs, (w.bindR σ).imp fun ds S1 H1 g1 l1 rs1 w1 J hJ => ?_⟩
    let Inv : Nat → Nat → L2.St → Hp → Prop := fun i m σ H => m = ds.length - i ∧ i ≤ ds.length ∧ ∃ (ρ' : Env) (S' : Store) (g' : G), g1.lt g' ∧ RelE c g' ρ' σ ∧ RelS c g' S' H ∧ wRF c W D g' (forL (bodyF C tg one body) (ds.drop i) ρ' S')
    refine ⟨Inv, ⟨ds.length, by simp, by omega, ρ, S1, g1, ⟨fun _ _ h => h, [], by simp⟩, re.mono l1.tolt, rs1, by simpa using w1⟩, ?_⟩
    rintro i m σ2 H2 ⟨rfl, hi2, ρ', S', g', l', re', rs', w2⟩
    obtain ⟨J1, J2⟩ := hJ g' S' H2 l' rs'
    by_cases hlt : i < ds.length
    · right
      have hd : ds[i]? = some ds[i] := List.getElem?_eq_getElem hlt
      generalize ds[i] = d at hd
      obtain ⟨j1, j2⟩ := J1 i d hd
      refine ⟨j1, fun σ' H' => ∃ m', m' < ds.length - i ∧ Inv (i + 1) m' σ' H', fun _ _ z => z, fun x H3 hy => ?_⟩
      obtain ⟨g2, l2, rs2, qx⟩ := j2 x H3 hy
      have hdrop : ds.drop i = d :: ds.drop (i + 1) := by
        rw [List.drop_eq_getElem_cons hlt]
        rw [List.getElem?_eq_getElem hlt] at hd
        cases hd; rfl
      rw [hdrop] at w2
      simp only [forL] at w2
      have w3 := wRF.mono l2 w2
      cases hbd : bindE ρ' tg one d with
      | none =>
        unfold bodyF at w3
        rw [hbd] at w3
        exact w3.elim
      | some ρ2 =>
        refine ⟨ρ', S', g2, d, ρ2, re'.mono l2.tolt, rs2, qx, hbd, fun σ3 re3 _ => ⟨ρ2, S', g2, re3, rs2, ?_⟩⟩
        have hF : bodyF C tg one body d ρ' S' = execs C body ρ2 S' := by
          unfold bodyF
          rw [hbd]
        rw [hF] at w3
        refine wRF.bindF w3 (fun ρ3 S3 _ w4 σ' H' g4 l4 s4 e4 => ?_) (fun d3 ρ3 S3 _ w4 => w4) (fun ρ3 S3 _ w4 => w4)
        exact ⟨ds.length - (i + 1), by omega, rfl, hlt, ρ3, S3, g4, l'.trans (l2.tolt.trans l4.tolt), e4, s4, wRF.mono l4 w4⟩
    · left
      have hie : i = ds.length := by omega
      subst hie
      rw [List.drop_length] at w2
      exact ⟨J2, w2 σ2 H2 g' (.refl _) rs' re'⟩
  · cases m
theorem st_whl (hC : CxOk c k C) (e : E) {body : Ss} (hb : SndSs c k C body) : SndS c k C (.whl e body) := fun M W X x m ok => by
  simp only [mtSt] at m
  split at m
  · simp only [Bool.and_eq_true] at m
    refine PS.imp (ps_while ok.po (sndE hC e M W X _ m.1 ok).2 (hb M W X _ m.2 ok)) fun D σ H hh => ?_
    obtain ⟨ρ, S, g, re, rs, w⟩ := hh
    simp only [exec] at w
    let Inv : Nat → L2.St → Hp → Prop := fun m σ H => ∃ (ρ' : Env) (S' : Store) (g' : G), RelE c g' ρ' σ ∧ RelS c g' S' H ∧ wRF c W D g' (whileL (fun ρ S => testR (ev C e ρ S)) (fun ρ S => execs C body ρ S) m ρ' S')
    refine ⟨Inv, ⟨wFuel, ρ, S, g, re, rs, w⟩, ?_⟩
    rintro m σ2 H2 ⟨ρ', S', g', re', rs', w2⟩
    cases m with
    | zero => exact w2.elim
    | succ m =>
      simp only [whileL] at w2
      refine tT_mk re' rs' (w2.bindR σ2) fun d1 S1 H1 g1 l1 rs1 w3 => ?_
      cases d1 with
      | false => exact w3 σ2 H1 g1 (.refl _) rs1 (re'.mono l1.tolt)
      | true =>
        refine ⟨Inv m, fun _ _ z => ⟨m, by omega, z⟩, ρ', S1, g1, re'.mono l1.tolt, rs1, ?_⟩
        exact wRF.bindF w3 (fun ρ3 S3 _ w4 σ' H' g4 l4 s4 e4 => ⟨ρ3, S3, g4, e4, s4, wRF.mono l4 w4⟩) (fun d3 ρ3 S3 _ w4 => w4) (fun ρ3 S3 _ w4 => w4)
  · cases m
theorem ss_nil : SndSs c k C .nil := fun M W X xs m ok => by
  simp only [mtSs, List.isEmpty_iff] at m
  subst m
  refine PSs.imp pss_nil fun D σ H hh => ?_
  obtain ⟨ρ, S, g, re, rs, w⟩ := hh
  exact w σ H g (.refl _) rs re
theorem ss_cons {st : St} {r : Ss} (h1 : SndS c k C st) (h2 : SndSs c k C r) : SndSs c k C (.cons st r) := fun M W X xs m ok => by
  cases xs with
  | nil => simp [mtSs] at m
  | cons y ys =>
    simp only [mtSs, Bool.and_eq_true] at m
    refine PSs.imp (pss_cons (h1 M W X y m.1 ok) (h2 M W X ys m.2 ok)) fun D σ H hh => ?_
    obtain ⟨ρ, S, g, re, rs, w⟩ := hh
    simp only [execs] at w
    exact ⟨ρ, S, g, re, rs, wRF.bindF w (fun ρ3 S3 _ w4 σ' H' g4 l4 s4 e4 => ⟨ρ3, S3, g4, e4, s4, wRF.mono l4 w4⟩) (fun d3 ρ3 S3 _ w4 => w4) (fun ρ3 S3 _ w4 => w4)⟩
theorem RelE.same {g : G} {ρ : Env} {σ : L2.St} (r : RelE c g ρ σ) {i : Nat} {d : D} {v : V} (hv : σ[i]? = some (some v)) (q : Rep c g d v) : RelE c g (ρ.set i (some d)) σ := by
  refine ⟨by simp [r.len], fun j e hj => ?_⟩
  by_cases h : i = j
  · subst h
    by_cases hl : i < ρ.length
    · rw [List.getElem?_set_self hl] at hj
      cases hj
      exact ⟨v, hv, q⟩
    · rw [List.getElem?_eq_none (by simpa using hl)] at hj; cases hj
  · rw [List.getElem?_set_ne h] at hj
    exact r.at_ j e hj
theorem frz_ok {g : G} {S S' : Store} {H : Hp} {d d' : D} {v : V} (rs : RelS c g S H) (q : Rep c g d v) (h : frzD 4 d S = some (d', S')) : ∃ g', g.le g' ∧ RelS c g' S' H ∧ Rep c g' d' v := by
  unfold frzD at h
  split at h
  · rename_i id
    split at h
    · rename_i xs hs
      cases h
      cases q with
      | @obj _ a e =>
        obtain ⟨vs, h1, h2, h3⟩ := rs.freeze e hs
        exact ⟨_, h1, h2, h3⟩
    · rename_i kvs hs
      cases h
      cases q with
      | @obj _ a e =>
        obtain ⟨o, h1, h2, h3⟩ := rs.freezeD e hs
        exact ⟨_, h1, h2, h3⟩
    · rename_i cc fs hs
      cases q with
      | @obj _ a e => exact (rs.live id a _ e hs).elim
    · cases h
  · cases h
    exact ⟨g, .refl _, rs, q⟩
theorem ss_frz (i : Nat) {r : Ss} (h2 : SndSs c k C r) : SndSs c k C (.frz i r) := fun M W X xs m ok => by
  simp only [mtSs] at m
  refine PSs.imp (h2 M W X xs m ok) fun D σ H hh => ?_
  obtain ⟨ρ, S, g, re, rs, w⟩ := hh
  simp only [execs] at w
  split at w
  · rename_i d hd
    split at w
    · rename_i d' S' hf
      unfold rget at hd
      split at hd
      · rename_i d0 h0
        cases hd
        obtain ⟨v, hv, qv⟩ := re.at_ i _ h0
        obtain ⟨g', l, rs', q'⟩ := frz_ok rs qv hf
        exact ⟨_, S', g', (re.mono l.tolt).same hv q', rs', wRF.mono l w⟩
      · cases hd
    · exact w.elim
  · exact w.elim
theorem mtT_name {M : Mc} {t : T} {x : Str} {p : Pos} (m : mtT M t (.Name x p) = true) : ∃ i, t = .var i ∧ (M.N[i]? == some x) = true ∧ locB M x = true := by
  cases t with
  | var i =>
    simp only [mtT, mtName, Bool.and_eq_true] at m
    exact ⟨i, rfl, m.1, m.2⟩
  | sub _ _ => simp [mtT] at m
  | fld _ _ => simp [mtT] at m
  | tup _ => simp [mtT] at m
theorem ts_cons_inv {M : Mc} {ts : Ts} {y : Expr} {ys : List Expr} (m : mtTs M ts (y :: ys) = true) : ∃ t r, ts = .cons t r ∧ mtT M t y = true ∧ mtTs M r ys = true := by
  cases ts with
  | nil => simp [mtTs] at m
  | cons t r =>
    simp only [mtTs, Bool.and_eq_true] at m
    exact ⟨t, r, rfl, m.1.2, m.2⟩
theorem ts_nil_inv {M : Mc} {ts : Ts} (m : mtTs M ts [] = true) : ts = .nil := by
  cases ts with
  | nil => rfl
  | cons t r => simp [mtTs] at m
theorem st_par (hC : CxOk c k C) (ts : Ts) (es : Es) : SndS c k C (.par ts es) := fun M W X x m ok => by
  simp only [mtSt] at m
  split at m
  · rename_i xs k1 p1 ys k2 p2 pos
    simp only [Bool.and_eq_true, Bool.or_eq_true] at m
    obtain ⟨⟨m1, m2⟩, m3⟩ := m
    have pa := (sndA hC es M W X ys m2 ok).1
    have ne : ∀ {i j : Nat} {x y : Str}, (M.N[i]? == some x) = true → (M.N[j]? == some y) = true → x ≠ y → i ≠ j := fun {i j x y} h1 h2 h3 z => by
      subst z
      rw [eq_of_beq h1] at h2
      exact h3 (by simpa using h2)
    refine ⟨fun pins s σ H D I hh => ?_⟩
    have hk := kind_of ok I
    obtain ⟨ρ, S, g, re, rs, w⟩ := hh
    simp only [exec] at w
    rcases m3 with m3 | m3
    · unfold swOk at m3
      split at m3
      · rename_i x px y py a b
        have hsw : swOk M.sc [.Name x px, .Name y py] [a, b] = true := m3
        obtain ⟨h1, h2, h3, h4, h5, h6⟩ := sw_two (p1 := p1) (p2 := p2) (k1 := k1) (k2 := k2) ok.sc hk hsw
        obtain ⟨t1, r1, rfl, u1, u2⟩ := ts_cons_inv m1
        obtain ⟨t2, r2, rfl, u3, u4⟩ := ts_cons_inv u2
        cases ts_nil_inv u4
        obtain ⟨i, rfl, i1, i2⟩ := mtT_name u1
        obtain ⟨j, rfl, j1, j2⟩ := mtT_name u3
        refine (ps_par ok.calm ok.ndX (ok.ix i1) (ok.ix j1) (ne i1 j1 h3) (by rw [ok.sc]; exact h1) (by rw [ok.sc]; exact h2) pa h6).run pins s σ H D I ?_
        refine tA_mk re rs (w.bindR σ) fun ds S1 H1 g1 l1 rs1 w1 vs q1 => ?_
        split at w1
        · cases q1 with
          | nil => exact w1.elim
          | cons q1 q2 => cases q2 with
            | nil => exact w1.elim
            | cons q2 q3 => cases q3 with
              | nil =>
                simp only [asgTs, asgT, R.bind_ok] at w1
                exact ⟨_, _, rfl, w1 _ H1 g1 (.refl _) rs1 (((re.mono l1.tolt).set q1 i).set q2 j)⟩
              | cons _ _ => exact w1.elim
        · exact w1.elim
      · rename_i x px y py z pz a b e
        have hsw : swOk M.sc [.Name x px, .Name y py, .Name z pz] [a, b, e] = true := m3
        obtain ⟨h1, h2, h3, h4, h5, h6, h7⟩ := sw_three (p1 := p1) (p2 := p2) (k1 := k1) (k2 := k2) ok.sc hk hsw
        obtain ⟨t1, r1, rfl, u1, u2⟩ := ts_cons_inv m1
        obtain ⟨t2, r2, rfl, u3, u4⟩ := ts_cons_inv u2
        obtain ⟨t3, r3, rfl, u5, u6⟩ := ts_cons_inv u4
        cases ts_nil_inv u6
        obtain ⟨i, rfl, i1, i2⟩ := mtT_name u1
        obtain ⟨j, rfl, j1, j2⟩ := mtT_name u3
        obtain ⟨l, rfl, l1, l2⟩ := mtT_name u5
        refine (ps_par3 ok.calm ok.ndX (ok.ix i1) (ok.ix j1) (ok.ix l1) (ne i1 j1 h4) (ne i1 l1 h5) (ne j1 l1 h6) (by rw [ok.sc]; exact h1) (by rw [ok.sc]; exact h2) (by rw [ok.sc]; exact h3) pa h7).run pins s σ H D I ?_
        refine tA_mk re rs (w.bindR σ) fun ds S1 H1 g1 l1 rs1 w1 vs q1 => ?_
        split at w1
        · cases q1 with
          | nil => exact w1.elim
          | cons q1 q2 => cases q2 with
            | nil => exact w1.elim
            | cons q2 q3 => cases q3 with
              | nil => exact w1.elim
              | cons q3 q4 => cases q4 with
                | nil =>
                  simp only [asgTs, asgT, R.bind_ok] at w1
                  exact ⟨_, _, _, rfl, w1 _ H1 g1 (.refl _) rs1 ((((re.mono l1.tolt).set q1 i).set q2 j).set q3 l)⟩
                | cons _ _ => exact w1.elim
        · exact w1.elim
      · cases m3
    · obtain ⟨g1, g2, g3⟩ := sndTs hC ts M W X xs m1 ok
      refine (ps_asg (pos := pos) (pe_tup pa) (pg_tup ok.calm g1 g2 g3) rfl (sw_no ok.sc m3) rfl).run pins s σ H D I ?_
      refine tA_mk re rs (w.bindR σ) fun ds S1 H1 g1 l1 rs1 w1 vs q1 => ?_
      split at w1
      · rename_i hz
        simp only [Bool.and_eq_true, beq_iff_eq] at hz
        refine ⟨by rw [← q1.length]; exact sz_le hz.1, fun p hp => ?_⟩
        obtain ⟨hl, r'⟩ := rs1.fresh (o := .tup vs) hp (fun ps z => HO.noConfusion z)
        exact ⟨p, vs, rfl, SqT.of upd_same, by rw [← q1.length]; exact hz.2, ρ, S1, _, ds, re.mono (l1.tolt.trans hl.tolt), r', q1.mono hl.tolt, (wRE.of w1).mono hl⟩
      · exact w1.elim
  · cases m
theorem nex_setD {x y d d' : D} {S S' : Store} : setD x y d S ≠ .ex d' S' := by
  unfold setD
  repeat' split
  all_goals simp
theorem st_aug (hC : CxOk c k C) (o i e : E) : SndS c k C (.aug o i e) := fun M W X x m ok => by
  simp only [mtSt] at m
  split at m
  · rename_i y z p v pos
    simp only [Bool.and_eq_true] at m
    obtain ⟨⟨⟨m0, m1⟩, m2⟩, m3⟩ := m
    have hg : PGet X (fun x y H Q => ∃ dx dy S g d, RelS c g S H ∧ Rep c g dx x ∧ Rep c g dy y ∧ oldD S dx dy = some d ∧ ∀ v, Rep c g d v → Q v H) := by
      intro pins s σ H x y ov iv Q I rx ry ⟨dx, dy, S, g, d, rs, qx, qy, hd, w⟩
      unfold oldD at hd
      split at hd
      case isFalse => cases hd
      case isTrue hk =>
      obtain ⟨kvs, hk⟩ := Option.isSome_iff_exists.mp hk
      obtain ⟨a, rfl, dd⟩ := dct_view I ok.O.K rs qx hk
      cases rx
      have e2 : ∃ hf : keyFor kvs dy = true, findK kvs dy = some d := by
        have ns : seqD S dx = none := by
          cases dx <;> first | (cases hk; done) | rfl | skip
          rename_i id
          simp only [dctD] at hk
          simp only [seqD]
          split at hk
          · rename_i kk hs
            rw [hs]
          · cases hk
        unfold subD at hd
        split at hd
        · cases hk
        · rename_i kk
          rw [ns] at hd
          cases hd
        · rw [hk] at hd
          dsimp only at hd
          split at hd
          · rename_i hf
            exact ⟨hf, hd⟩
          · cases hd
      obtain ⟨hf, he⟩ := e2
      exact w_get I ok.O ok.un rs dd qy ry hf he fun v0 w0 t q0 r0 => ⟨v0, H, I.tok _, r0, w _ q0⟩
    refine PS.imp (ps_augS (sndE hC o M W X y m1 ok).1 (sndE hC i M W X z m2 ok).1 hg (sndE hC e M W X v m3 ok).1 ip_add (set_itemD (c := c) ok.O ok.un) (fun _ _ _ => by cases z <;> first | rfl | cases m0)) fun D σ H hh => ?_
    obtain ⟨ρ, S, g, re, rs, w⟩ := hh
    simp only [exec] at w
    refine tE_mk re rs (w.bindR σ) fun d1 S1 H1 g1 l1 rs1 w1 v1 q1 => ?_
    refine tE_mk (re.mono l1.tolt) rs1 (w1.bindR σ) fun d2 S2 H2 g2 l2 rs2 w2 v2 q2 => ?_
    obtain ⟨d3, e3, w3⟩ := (w2.bindR σ).ofO
    have q1' := q1.mono l2.tolt
    refine ⟨d1, d2, S2, g2, d3, rs2, q1', q2, e3, fun v3 q3 => ?_⟩
    have w4 := w3 H2 g2 (.refl _) rs2
    refine tE_mk ((re.mono l1.tolt).mono l2.tolt) rs2 (w4.bindR σ) fun d4 S4 H4 g4 l4 rs4 w5 v4 q4 => ?_
    obtain ⟨d5, e5, w6⟩ := (w5.bindR σ).ofO
    have w7 := w6 H4 g4 (.refl _) rs4
    unfold augD at e5
    split at e5
    · cases e5
      cases rep_int (q3.mono l4.tolt)
      cases rep_int q4
      refine ⟨_, _, rfl, rfl, d1, d2, _, S4, g4, rs4, q1'.mono l4.tolt, q2.mono l4.tolt, .int _, ?_⟩
      have re4 := ((re.mono l1.tolt).mono l2.tolt).mono l4.tolt
      cases hr : setD d1 d2 (.int (_ + _)) S4 with
      | ok u S' =>
        rw [hr] at w7
        exact fun H' g' l s => w7 σ H' g' l s (re4.mono l.tolt)
      | ex d' S' => exact (nex_setD hr).elim
      | bad => rw [hr] at w7; exact w7
    · cases e5
  · cases m
mutual
theorem sndS (hC : CxOk c k C) : ∀ st : St, SndS c k C st
  | .asg t e => st_asg hC t e
  | .par ts es => st_par hC ts es
  | .aug o i e => st_aug hC o i e
  | .expr e => st_expr hC e
  | .ife e a b => st_ife hC e (sndSs hC a) (sndSs hC b)
  | .forr tg one it body => st_forr hC tg one it (sndSs hC body)
  | .whl e body => st_whl hC e (sndSs hC body)
  | .ret e => st_ret hC e
  | .retN => st_retN
  | .raise y es => st_raise hC y es
  | .tryC _ _ _ => fun M W X x m _ => by simp [mtSt] at m
  | .mtch _ _ => fun M W X x m _ => by simp [mtSt] at m
  | .pass => st_pass
  | .brk => st_brk
theorem sndSs (hC : CxOk c k C) : ∀ ss : Ss, SndSs c k C ss
  | .nil => ss_nil
  | .cons s r => ss_cons (sndS hC s) (sndSs hC r)
  | .frz i r => ss_frz i (sndSs hC r)
end
end
end FT
end

section
set_option Elab.async false
set_option linter.all false
set_option maxRecDepth 100000
set_option autoImplicit false
/-! FT.Mast6: a lambda handed to a def is sound. -/
namespace FT
open PySem L2 LamX PyProof.Rows

section
variable {c : Cfg} {k : Nat} {C : Cx}
theorem wR_sig {E : XK} {σ σ' : L2.St} {α : Type} {g : G} {K : α → Store → Hp → G → Prop} {r : R α} (w : wR c (fun cls dx _ H => E cls dx H) σ g K r) : wR c (fun cls dx _ H => E cls dx H) σ' g K r := by
  cases r with
  | ok a S => exact w
  | ex d S => exact w
  | bad => exact w
theorem wR_nox {W W' : WX} {σ σ' : L2.St} {α : Type} {g : G} {K : α → Store → Hp → G → Prop} {r : R α} (w : wR c W σ g K (noxR r)) : wR c W' σ' g K (noxR r) := by
  cases r with
  | ok a S => exact w
  | ex d S => exact w
  | bad => exact w
/-- what a def makes of the lambda that it is handed -/
def TTf (c : Cfg) (sem : (Store → R D) → Store → R D) : (XK → Hp → VK → Prop) → Hp → VK → Prop := fun tl H Q => ∃ act S g, RelS c g S H ∧
  (∀ (E : XK) H1 (Q1 : VK) S1 g1, g.le g1 → RelS c g1 S1 H1 → wR c (fun cls dx _ H => E cls dx H) [] g1 (fun d _ H' g' => ∀ v, Rep c g' d v → Q1 v H') (act S1) → tl E H1 Q1) ∧
  wR c (fun _ _ _ _ => False) [] g (fun d _ H' g' => ∀ v, Rep c g' d v → Q v H') (noxR (sem act S))
structure LamOk (c : Cfg) (k : Nat) (f : Str) (sem : (Store → R D) → Store → R D) : Prop where
  ex : ∃ (g : Addr) (pg : Arguments) (bg : List Stmt) (sg : Scope) (dV kV doc pm cdv ct oc : Value) (an od : Option Addr) (osl : Array (Option Value)) (Ng : List Str) (a : Str),
    c.mg f = some (.ref g) ∧ PySem.W.keepIn c.K (.ref g) = true ∧ c.K.lookup g = some ⟨oc, od, .func (PySem.W.fnOf f f pg bg sg dV kV doc pm an cdv ct), osl⟩ ∧ PySem.W.codeIn c.K cdv f = true ∧
    L2.Binds c.K (PySem.W.fnOf f f pg bg sg dV kV doc pm an cdv ct) [a] [] ∧ FnScope Ng [a] sg ∧ Ng[0]? = some a ∧ Vis sg a ∧ (a == ("__debug__" : Str)) = false ∧ (a == ("__classdict__" : Str)) = false ∧
    ∀ (X : L2.Cx) (q : Str), OverC c X → X.A.guards = some [] → Room (k + 1) X.A → GivesL X Ng f sg g cdv bg a q (TTf c sem)
theorem no_args {ps : Arguments} (h : noArgs ps = true) : ps = ⟨[], [], none, [], [], none, []⟩ := by
  unfold noArgs at h
  split at h
  · rfl
  · cases h
theorem s_callL {f : Str} {b : E} (hl : LamOk c (k + 1) f (C.callL f)) (hb : Snd c k C.lam b) : Snd c (k + 2) C (.callL f b) := .of fun M W X x m ok => by
  simp only [mtE] at m
  split at m
  · rename_i y p ps body scope lp pos
    simp only [Bool.and_eq_true, beq_iff_eq] at m
    obtain ⟨⟨⟨⟨⟨⟨rfl, m1⟩, m2⟩, m3⟩, m4⟩, m5⟩, m6⟩ := m
    have m4 := no_args m4
    subst m4
    obtain ⟨cc, P, t1, t2, t3, t4⟩ := ok.tb m1
    obtain ⟨g, pg, bg, sg, dV, kV, doc, pm, cdv, ct, oc, an, od, osl, Ng, a, h1, h2, h3, h4, h5, h6, h7, h8, h9, h10, h11⟩ := hl.ex
    have L : LamS X.env.scope scope := lamS_by (by rw [ok.sc]; exact m5)
    have n1 : (f == ("__debug__" : Str)) = false := by
      simp only [okName, Bool.and_eq_true, Bool.not_eq_true'] at m3
      exact m3.1.1
    have hK := ok.O.K
    refine ⟨PE.imp (lam_call (T := c.tbl) (TT := TTf c (C.callL f)) (t := fun E => tE c (fun cls dx _ H => E cls dx H) fun ρ S => ev C.lam b ρ S) (k := k) (a := a) (ok.gl m2) (by rw [ok.O.mg]; exact h1) (by rw [hK]; exact h2) (by rw [hK]; exact h3) (by rw [hK]; exact h4) (by rw [hK]; exact h5) h6 h7 h8 (h11 X _ ok.O ok.gd ok.room) t2 t1 t3 t4 ok.room L rfl (fun _ _ _ _ _ => rfl) (fun s0 s2 H2 E f' c' r => ?_) n1 h9 h10) fun σ H Q hh => ?_, rfl⟩
    · refine (hb (lamM M scope) (fun cls dx _ H => E cls dx H) (lamCx X (calA X f sg g cdv s0) (calO X f sg g cdv s0) s2 H2 E scope f' c') body m6 ⟨⟨ok.O.P, ok.O.w, ok.O.K, ok.O.mg, ok.O.base⟩, r, ok.gd, rfl, ok.N, ok.nd, rfl, fun x e => ?_, takes_of rfl rfl rfl rfl, passes_of rfl, fun e => by cases e⟩).1
      exact absurd rfl (L.own _ (PySem.mem_of_lookup e)).2
    · obtain ⟨ρ, S, g0, re, rs, w⟩ := hh
      simp only [ev] at w
      refine ⟨rs.tabs, fun H1 eN T1 => ⟨fun S => ev C.lam b ρ S, S, g0, rs.extN eN T1, fun E' H2 Q1 S1 g1 l1 rs1 w1 => ⟨ρ, S1, g1, re.mono l1.tolt, rs1, wR_sig w1⟩, wR_nox w⟩⟩
  · cases m
end
end FT
end

section
set_option Elab.async false
set_option linter.all false
set_option maxRecDepth 100000
set_option autoImplicit false
/-! FT.Mast5: defs; the table; the law's call. -/
namespace FT
open PySem L2 LamX PyProof.Rows

section
variable {c : Cfg} {g g' : G} {S : Store} {H : Hp} {n : Nat}
def G.cut (g : G) (n : Nat) : G := ⟨g.F, g.φ.take n, g.R⟩
theorem topDk_keys : ∀ kvs : List (D × D), topDs (kvs.map (·.1)) ≤ topDk kvs ∧ topDs (kvs.map (·.2)) ≤ topDk kvs
  | [] => by simp [topDs, topDk]
  | (k, v) :: r => by
    obtain ⟨h1, h2⟩ := topDk_keys r
    simp only [List.map_cons, topDs, topDk]
    omega
mutual
theorem rep_cut : ∀ {d : D} {v : V}, Rep c g d v → topD d ≤ n → Rep c (g.cut n) d v
  | _, _, .non, _ => .non
  | _, _, .bl b, _ => .bl b
  | _, _, .int i, _ => .int i
  | _, _, .str x, _ => .str x
  | _, _, .tup s r, h => .tup s (repAll_cut r (by simpa [topD] using h))
  | _, _, .lst s r, h => .lst s (repAll_cut r (by simpa [topD] using h))
  | _, _, .dct (kvs := kvs) e p k v, h => .dct e p (repAll_cut k (Nat.le_trans (topDk_keys kvs).1 (by simpa [topD] using h))) (repAll_cut v (Nat.le_trans (topDk_keys kvs).2 (by simpa [topD] using h)))
  | _, _, .obj e, h => .obj (by
      simp only [topD] at h
      show (g.φ.take n)[_]? = _
      rw [List.getElem?_take_of_lt (by omega)]
      exact e)
  | _, _, .exc m p e, _ => .exc m p e
  | _, _, .exl m p e e2, _ => .exl m p e e2
theorem repAll_cut : ∀ {ds : List D} {vs : List V}, RepAll c g ds vs → topDs ds ≤ n → RepAll c (g.cut n) ds vs
  | _, _, .nil, _ => .nil
  | _, _, .cons r t, h => by
    simp only [topDs] at h
    exact .cons (rep_cut r (by omega)) (repAll_cut t (by omega))
end
theorem RelS.cut (r : RelS c g S H) (hn : n ≤ S.length) (h : ∀ o ∈ S.take n, topM o ≤ n) : RelS c (g.cut n) (S.take n) H := by
  have up : ∀ {α : Type} {l : List α} {i : Nat} {x : α}, (l.take n)[i]? = some x → l[i]? = some x := fun {α l i x} e => by
    by_cases hi : i < n
    · rw [List.getElem?_take_of_lt hi] at e; exact e
    · rw [List.getElem?_take_eq_none (by omega)] at e; cases e
  refine ⟨r.sub, r.rest, r.dis, r.ntb, by simp [G.cut, r.len], fun i b m e1 e2 => ?_, fun i j a o o' e1 e2 e3 e4 => r.inj i j a o o' (up e1) (up e2) (up e3) (up e4), r.tabs, r.rtb⟩
  have l := r.live i b m (up e1) (up e2)
  have ht := h m (List.mem_of_getElem? e2)
  cases m with
  | dead => trivial
  | lst xs =>
    obtain ⟨l1, vs, l2, l3⟩ := l
    exact ⟨l1, vs, l2, repAll_cut l3 (by simpa [topM] using ht)⟩
  | dct kvs =>
    obtain ⟨l1, o, ks, vs, l2, l3, l4, l5⟩ := l
    have ht' : topDk kvs ≤ n := by simpa [topM] using ht
    exact ⟨l1, o, ks, vs, l2, l3, repAll_cut l4 (Nat.le_trans (topDk_keys kvs).1 ht'), repAll_cut l5 (Nat.le_trans (topDk_keys kvs).2 ht')⟩
  | ins _ _ => exact l
theorem le_cut (h : g.le g') (rs : RelS c g S H) : g.le (g'.cut S.length) := by
  obtain ⟨r, e⟩ := h.φ
  refine ⟨⟨h.F, [], ?_⟩, h.R⟩
  show g'.φ.take S.length = _
  rw [e, ← rs.len]; simp
theorem cutR_ok {keep : Bool} {d d' : D} {S0 S1 S' : Store} {H' : Hp} {v : V} (rs : RelS c g S0 H) (l : g.le g') (rs' : RelS c g' S' H') (q : Rep c g' d v) (h : cutR keep S0.length d S' = .ok d' S1) :
    ∃ g1, g.le g1 ∧ RelS c g1 S1 H' ∧ d' = d ∧ Rep c g1 d v := by
  unfold cutR at h
  split at h
  · cases h; exact ⟨g', l, rs', rfl, q⟩
  · split at h
    · rename_i hc
      cases h
      simp only [Bool.and_eq_true, decide_eq_true_eq, List.all_eq_true] at hc
      obtain ⟨⟨h1, h2⟩, h3⟩ := hc
      exact ⟨_, le_cut l rs, rs'.cut h1 h3, rfl, rep_cut q h2⟩
    · cases h
theorem cutR_cases (keep : Bool) (m : Nat) (d : D) (S' : Store) : (∃ S1, cutR keep m d S' = .ok d S1) ∨ cutR keep m d S' = .bad := by
  unfold cutR
  split
  · exact .inl ⟨_, rfl⟩
  · split
    · exact .inl ⟨_, rfl⟩
    · exact .inr rfl
theorem back_ok {keep : Bool} {E : XK} {Q : VK} {r : RF} (rs : RelS c g S H) (w : wR c (fun cls dx _ H => E cls dx H) [] g (fun d _ H' g' => ∀ v, Rep c g' d v → Q v H') (backR keep S.length r)) :
    wRF c (fun cls dx _ H => E cls dx H) { nx := fun _ H' => Q .non H', rt := Q } g r := by
  match r, w with
  | .ok (.rt d, ρ) S', w =>
    intro v H' g' l s q
    rcases cutR_cases keep S.length d S' with ⟨S1, h⟩ | h
    · obtain ⟨g1, l1, s1, _, q1⟩ := cutR_ok rs l s q h
      simp only [backR, h] at w
      exact w H' g1 l1 s1 v q1
    · simp only [backR, h] at w
      exact w.elim
  | .ok (.nx, ρ) S', w =>
    intro σ' H' g' l s e
    rcases cutR_cases keep S.length .non S' with ⟨S1, h⟩ | h
    · obtain ⟨g1, l1, s1, _, q1⟩ := cutR_ok (v := .non) rs l s .non h
      simp only [backR, h] at w
      exact w H' g1 l1 s1 _ .non
    · simp only [backR, h] at w
      exact w.elim
  | .ex d S', w =>
    intro cls dx σ' H' g' l s e
    rcases cutR_cases keep S.length d S' with ⟨S1, h⟩ | h
    · have hs : ∃ g1, g.le g1 ∧ RelS c g1 S1 H' := by
        unfold cutR at h
        split at h
        · cases h; exact ⟨g', l, s⟩
        · split at h
          · rename_i hc
            cases h
            simp only [Bool.and_eq_true, decide_eq_true_eq, List.all_eq_true] at hc
            obtain ⟨⟨h1, h2⟩, h3⟩ := hc
            exact ⟨_, le_cut l rs, s.cut h1 h3⟩
          · cases h
      obtain ⟨g1, l1, s1⟩ := hs
      simp only [backR, h] at w
      exact w cls dx H' g1 l1 s1 e
    · simp only [backR, h] at w
      exact w.elim
end

/-! ### defs -/
def fnB (d : Def) (st : Stmt) : Bool :=
  d.n == d.N.length && decide (d.ps ≤ d.n) && (defScope st).kind == .function && (defScope st).isCoroutine == false && (defScope st).isGenerator == false && decide d.N.Nodup &&
  (d.N.take d.ps).all (fun x => (defScope st).names.lookup x == some .local || (defScope st).names.lookup x == some .cell) && (defScope st).names.all (fun y => !(y.2 == .free))
abbrev mcOf (d : Def) (st : Stmt) : Mc := ⟨d.N, defScope st, defScope st, d.lm⟩
/-- a def of the text, as it stands -/
def defB (d : Def) (st : Stmt) : Bool := fnB d st && mtSs (mcOf d st) d.body (defBody st)
theorem fn_scope {d : Def} {st : Stmt} (h : fnB d st = true) : FnScope d.N (d.N.take d.ps) (defScope st) ∧ d.n = d.N.length ∧ d.ps ≤ d.n := by
  simp only [fnB, Bool.and_eq_true, beq_iff_eq, decide_eq_true_eq, List.all_eq_true, Bool.or_eq_true, Bool.not_eq_true', beq_eq_false_iff_ne, ne_eq] at h
  obtain ⟨⟨⟨⟨⟨⟨⟨h1, h2⟩, h3⟩, h4⟩, h5⟩, h6⟩, h7⟩, h8⟩ := h
  refine ⟨⟨h3, h4, h5, h6, ?_, h7, h8⟩, h1, h2⟩
  rw [List.length_take, Nat.min_eq_left (by omega)]
structure FactOf (c : Cfg) (f : Str) (st : Stmt) (d : Def) : Prop where
  ex : ∃ a fd, c.mg f = some (.ref a) ∧ Fun c.K f f st a fd ∧ Binds c.K fd (d.N.take d.ps) [] ∧
    (d.lm = true → ∃ cc P, fd.code = .ref cc ∧ TabB c.base c.mg cc P ∧ (P, f ++ ".<locals>." ++ "<lambda>") ∈ c.tbl ∧ ∀ p ∈ c.tbl, p.1 = P → p.2 = f ++ ".<locals>." ++ "<lambda>")
theorem relE_start {c : Cfg} {g : G} {ds : List D} {vs : List V} {N : List Str} (q : RepAll c g ds vs) (m : Nat) (hm : m = N.length - vs.length) : RelE c g (ds.map some ++ List.replicate m none) (L2.start N vs) := by
  unfold L2.start
  subst hm
  have hl := q.length
  refine ⟨by simp [hl], fun i d e => ?_⟩
  by_cases hi : i < ds.length
  · rw [List.getElem?_append_left (by simpa using hi), List.getElem?_map] at e
    cases e2 : ds[i]? with
    | none => rw [e2] at e; cases e
    | some d' =>
      rw [e2] at e; cases e
      obtain ⟨v, h1, h2⟩ := q.get e2
      refine ⟨v, ?_, h2⟩
      rw [List.getElem?_append_left (by simp; omega), List.getElem?_map, h1]; rfl
  · rw [List.getElem?_append_right (by simp; omega)] at e
    rw [List.getElem?_replicate] at e
    split at e <;> cases e
theorem def_ok {c : Cfg} {k : Nat} {C : Cx} {f : Str} {st : Stmt} {d : Def} (hC : CxOk c k C) (F : FactOf c f st d) (hd : defB d st = true) : DefOk c (k + 1) f (runD C d) := by
  simp only [defB, Bool.and_eq_true] at hd
  obtain ⟨hf, hm⟩ := hd
  obtain ⟨Sc, hn, hps⟩ := fn_scope hf
  obtain ⟨a, fd, hmg, hF, hB, hT⟩ := F.ex
  have hlen : ∀ vs H Q E, spC c (runD C d) vs H Q E → vs.length = (d.N.take d.ps).length := fun vs H Q E ⟨ds, S, g, rs, q, w⟩ => by
    unfold runD at w
    split at w
    · rename_i h
      rw [← q.length, h, List.length_take, Nat.min_eq_left (by omega)]
    · exact w.elim
  refine ⟨a, fd, _, hmg, hF.kp, fnG_body hF Sc hlen fun cd A outer s H vs Q E hcd hg hr hsp => ?_, hB⟩
  obtain ⟨ds, S, g, rs, q, w⟩ := hsp
  unfold runD at w
  split at w
  · rename_i hl
    have ok : Okx c k (mcOf d st) (fun cls dx _ H => E cls dx H) (bodyX c d.N f (defScope st) a cd A outer s H E) :=
      ⟨⟨rfl, rfl, rfl, rfl, rfl⟩, hr, hg, rfl, rfl, Sc.nd, rfl, fun _ _ => rfl, takes_of rfl rfl rfl rfl, passes_of rfl, fun e => by
        obtain ⟨cc, P, t1, t2, t3, t4⟩ := hT e
        exact ⟨cc, P, hcd.symm.trans t1, t2, t3, t4⟩⟩
    refine ⟨_, sndSs hC d.body _ _ _ _ hm ok, ds.map some ++ List.replicate (d.n - d.ps) none, S, g, relE_start q _ (by rw [hn, ← q.length, hl]), rs, back_ok rs w⟩
  · exact w.elim
end FT
end

section
set_option Elab.async false
set_option linter.all false
set_option maxRecDepth 100000
set_option autoImplicit false
/-! FT.Mast7: a def that is handed a lambda, and catches what it raises. -/
namespace FT
open PySem L2 LamX PyProof.Rows

/-- caught = None / try: act() / except FlushError as e: caught = e / the rest -/
def lamB (d : Def) (st : Stmt) : Bool := fnB d st && d.ps == 1 && d.lm == false && (match d.body, defBody st with
  | .cons (.asg (.var i0) (.k .non)) (.cons (.tryC i j cl) r), .Assign [.Name m0 _] (.Constant .none _ _) _ :: .Try [.Expr (.Call (.Name a _) [] [] _) _] [.ExceptHandler (some (.Name x _)) (some n) [.Assign [.Name m _] (.Name n2 _) _] _] [] [] _ :: ys =>
    d.N[0]? == some a && visB (mcOf d st) a && okName a && i0 != 0 && d.N[i0]? == some m0 && locB (mcOf d st) m0 && x == cl && cl == ("FlushError" : Str) && glB (mcOf d st) x && okName x && d.N[j]? == some n && (defScope st).names.lookup n == some .local &&
      n2 == n && okName n && visB (mcOf d st) n && d.N[i]? == some m && locB (mcOf d st) m && mtSs (mcOf d st) r ys
  | _, _ => false)
section
variable {c : Cfg} {k : Nat} {C : Cx}
theorem wR_box {W W' : WX} {σ σ' : L2.St} {α : Type} {g : G} {K : α → Store → Hp → G → Prop} {r : R α} (w : wR c W σ g K (noxR r)) : wR c W' σ' g K r := by
  cases r with
  | ok a S => exact w
  | ex d S => exact w.elim
  | bad => exact w
/-- the reading of the body of try -/
def tAct (q : Str) (f' c' : Addr) (tl : XK → Hp → VK → Prop) (W : WX) : TS := fun D σ H => ∃ E : XK, (∀ cls d H', E cls d H' → W cls d σ H') ∧ σ[0]? = some (some (.ref f')) ∧ H c' = some (CodeO c' q) ∧ tl E H fun _ H' => D.nx σ H'
theorem lam_gives {d : Def} {st : Stmt} {f q a0 : Str} {g : Addr} {cdv : Value} {X : L2.Cx} (hC : ∀ act, CxOk c k { C with act := act }) (hd : lamB d st = true) (h0 : d.N[0]? = some a0) (O : OverC c X) (hF : ∃ F, c.mg "FlushError" = some (.ref F)) (gd : X.A.guards = some []) (room : Room (k + 1) X.A) :
    GivesL X d.N f (defScope st) g cdv (defBody st) a0 q (TTf c (fun act S => runL C d act S)) := by
  intro f' c' s H Q tl hact hc ⟨act, S, g0, rs, htl, w⟩
  simp only [lamB, Bool.and_eq_true, beq_iff_eq] at hd
  obtain ⟨⟨⟨hf, hps⟩, hlm⟩, hm⟩ := hd
  obtain ⟨Sc, hn, hle⟩ := fn_scope hf
  have w0 := wR_box (W' := fun _ _ _ _ => False) (σ' := []) w
  clear w
  simp only [runL, hps, if_true] at w0
  have hrun := back_ok (E := fun _ _ _ => False) rs w0
  clear w0
  split at hm
  · rename_i i0 i j cl r m0 p0 q0 p1 p2 a p3 p4 p5 x p6 n m p7 n2 p8 p9 p10 p11 ys hb hs
    simp only [Bool.and_eq_true, beq_iff_eq, bne_iff_ne, ne_eq] at hm
    obtain ⟨⟨⟨⟨⟨⟨⟨⟨⟨⟨⟨⟨⟨⟨⟨⟨⟨ha, hva⟩, oka⟩, hi0⟩, hm0⟩, hl0⟩, rfl⟩, rfl⟩, hgx⟩, okx⟩, hj⟩, hjl⟩, rfl⟩, okn⟩, hvn⟩, hi⟩, hli⟩, mr⟩ := hm
    rw [ha] at h0
    cases h0
    rw [hs]
    rw [hb] at hrun
    have Xk : Okx c k (mcOf d st) (fun _ _ _ _ => False) (calX X C8.CX0 d.N f (defScope st) g cdv s H C8.E0).nox :=
      ⟨⟨O.P, O.w, O.K, O.mg, O.base⟩, room.deeper _, gd, rfl, rfl, Sc.nd, rfl, fun _ _ => rfl, LamX.takes0, PassesOwn.never, fun e => by rw [show (mcOf d st).lm = d.lm from rfl, hlm] at e; cases e⟩
    have dbg : ∀ {y : Str}, okName y = true → (y == ("__debug__" : Str)) = false ∧ (y == ("__classdict__" : Str)) = false := fun {y} h => by
      simp only [okName, Bool.and_eq_true, Bool.not_eq_true'] at h
      exact ⟨h.1.1, h.1.2⟩
    obtain ⟨F, hF⟩ := hF
    let σ1 : L2.St := (L2.start d.N [V.ref f']).set i0 (some .non)
    let ρ1 : Env := (List.replicate d.n none).set i0 (some .non)
    have re1 : RelE c g0 ρ1 σ1 := by
      have base : RelE c g0 (List.replicate d.n none) (L2.start d.N [V.ref f']) := by
        refine ⟨by simp [L2.start]; omega, fun y e h => ?_⟩
        rw [List.getElem?_replicate] at h
        split at h <;> cases h
      exact base.set .non i0
    have slot0 : σ1[0]? = some (some (V.ref f')) := by
      show ((L2.start d.N [V.ref f']).set i0 (some .non))[0]? = _
      rw [List.getElem?_set_ne hi0]
      simp [L2.start]
    have jl : j < σ1.length := by
      have := (List.getElem?_eq_some_iff.mp hj).1
      rw [← re1.len]
      simp [ρ1]
      omega
    simp only [execs, exec, ev, asgT, R.bind_ok, K.d] at hrun
    refine ⟨_, pss_cons (ps_set (X := (calX X C8.CX0 d.N f (defScope st) g cdv s H C8.E0).nox) (i := i0) Sc.nd hm0 (Xk.loc hl0) pe_non rfl (Xk.sto hl0)) (pss_cons (ps_try_keep (X := (calX X C8.CX0 d.N f (defScope st) g cdv s H C8.E0).nox) (i := j) (c := .ref F) (Wout := fun _ _ _ _ => False) (tb := tAct q f' c' tl) (ts := fun _ _ _ => tAsg (tVar j) (gName i)) rfl rfl rfl Sc.nd hj hjl
      ⟨Xk.gl hgx, (dbg okx).1, .inl (by show X.mg _ = _; rw [O.mg]; exact hF)⟩ LamX.takes0 (fun W pn xe tk _ => ?_) (fun a' oe cls d' pn _ _ => ?_)) (sndSs (hC act) r (mcOf d st) _ _ ys mr Xk)), ?_⟩
    · refine ⟨fun pins s' σ H D I hh => ?_⟩
      obtain ⟨E, out, h1, h2, h3⟩ := hh
      exact (pss_one (ps_expr (pos := p5) (hact W pn xe p3 p4 tk))).run pins s' σ H D I ⟨E, out, h1, h2, h3⟩
    · exact pss_one (ps_set (X := ((calX X C8.CX0 d.N f (defScope st) g cdv s H C8.E0).nox).suite a' ((a', oe) :: pn)) Sc.nd hi (Xk.loc hli) (pe_var hj (Xk.vis hvn) (dbg okn).1 (dbg okn).2) rfl (Xk.sto hli))
    · refine ⟨_, fun _ _ _ h => h, slot0, hc, htl _ H _ S g0 (.refl _) rs ?_⟩
      cases hact2 : act S with
      | bad => rw [hact2] at hrun; exact hrun.elim
      | ok e S' =>
        rw [hact2] at hrun
        exact fun H' g' l rs' v qv => ⟨ρ1, S', g', re1.mono l.tolt, rs', wRF.mono l hrun⟩
      | ex e S' =>
        rw [hact2] at hrun
        cases e with
        | exc x args =>
          dsimp only at hrun
          split at hrun
          · rename_i hx
            simp only [Bool.and_eq_true] at hx
            intro cls dx H' g' l rs' he
            obtain ⟨C1, k1, k2, k3, k4⟩ := he
            subst k2 k3
            obtain ⟨F', kF, kE⟩ := ((hC act).exc x hx.1).sup C1 k1
            rw [hF] at kF
            cases kF
            refine ⟨true, by show PySem.W.exmOne X.K _ _ = _; rw [O.K]; exact kE, fun z => (by cases z), fun _ => ⟨rfl, C1, rfl, fun a' na => ⟨.ref a', List.getElem?_set_self jl, fun na' => ?_⟩⟩⟩
            obtain ⟨l2, rs2⟩ := rs'.fresh (p := a') (o := ExcA C1 a') na (fun ps z => HO.noConfusion (show (HO.ext _ : HO) = .tbl ps from z))
            refine ⟨_, S', _, ?_, rs2, wRF.mono (l.trans l2) hrun⟩
            have e3 : ((σ1.set j (some (V.ref a'))).set i (some (V.ref a'))).set j none = (σ1.set i (some (V.ref a'))).set j none := by
              by_cases hij : i = j
              · subst hij; simp
              · rw [List.set_comm _ _ (Ne.symm hij), List.set_set]
            show RelE c _ _ (((σ1.set j (some (V.ref a'))).set i (some (V.ref a'))).set j none)
            rw [e3]
            exact ((re1.mono (l.trans l2).tolt).set (.exc k1 k4 upd_same) i).unset j
          · exact hrun.elim
        | _ => exact hrun.elim
  · cases hm
end
end FT
end

section
set_option Elab.async false
set_option linter.all false
set_option maxRecDepth 100000
set_option autoImplicit false
/-! FT.Mast8: every def of a table keeps what callN says. -/
namespace FT
open PySem L2 LamX PyProof.Rows

section
variable {c : Cfg} {k : Nat} {C : Cx}
theorem snd_bad {f : Str} {b : E} (h : ∀ act S, C.callL f act S = .bad) : Snd c k C (.callL f b) := fun M W X x m ok =>
  ⟨pe_none x fun ρ S => by simp only [ev, h, noxR], pt_none x fun ρ S => by simp only [ev, h, noxR, testR, R.bind_bad]⟩
theorem lam_first {d : Def} {st : Stmt} (h : lamB d st = true) : fnB d st = true ∧ d.ps = 1 ∧ ∃ a, d.N[0]? = some a ∧ visB (mcOf d st) a = true ∧ okName a = true := by
  simp only [lamB, Bool.and_eq_true, beq_iff_eq] at h
  obtain ⟨⟨⟨hf, hps⟩, _⟩, hm⟩ := h
  split at hm
  · simp only [Bool.and_eq_true, beq_iff_eq, bne_iff_ne, ne_eq] at hm
    obtain ⟨⟨⟨⟨⟨⟨⟨⟨⟨⟨⟨⟨⟨⟨⟨⟨⟨ha, hva⟩, oka⟩, _⟩, _⟩, _⟩, _⟩, _⟩, _⟩, _⟩, _⟩, _⟩, _⟩, _⟩, _⟩, _⟩, _⟩, _⟩ := hm
    exact ⟨hf, hps, _, ha, hva, oka⟩
  · cases hm
theorem lam_ok {f : Str} {st : Stmt} {d : Def} (hC : ∀ act, CxOk c k { C with act := act }) (hF : ∃ F, c.mg "FlushError" = some (.ref F)) (F : FactOf c f st d) (hd : lamB d st = true) : LamOk c k f (fun act S => runL C d act S) := by
  obtain ⟨hf, hps, a0, ha, hva, oka⟩ := lam_first hd
  obtain ⟨Sc, hn, hle⟩ := fn_scope hf
  obtain ⟨g, fd, hmg, hFun, hB, _⟩ := F.ex
  obtain ⟨oc, od, kV, doc, pm, an, cdv, ct, osl, hfd, lk, hcd⟩ := hFun.ex
  subst hfd
  have ht : d.N.take d.ps = [a0] := by
    rw [hps]
    cases hN : d.N with
    | nil => rw [hN] at ha; cases ha
    | cons y ys => rw [hN] at ha; simp at ha; subst ha; rfl
  rw [ht] at Sc hB
  simp only [okName, Bool.and_eq_true, Bool.not_eq_true'] at oka
  exact ⟨g, _, _, _, _, kV, doc, pm, cdv, ct, oc, an, od, osl, d.N, a0, hmg, hFun.kp, lk, hcd, hB, Sc, ha, vis_of hva, oka.1.1, oka.1.2, fun X q O gd room => lam_gives hC hd ha O hF gd room⟩
end
structure TabOk (c : Cfg) (T : Tab) (stOf : Str → Stmt) : Prop where
  blt : ∀ x ∈ bltNames, c.mg x = none
  glob : ∀ x d, T.glob x = some d → GlobOk c x d
  exc : ∀ x, T.exc x = true → ExcOk c x
  pair : ∀ x y Cx Cy, T.exc x = true → T.exc y = true → c.mg x = some (.ref Cx) → c.mg y = some (.ref Cy) → PySem.W.kitOne c.K (.ref Cx) (.ref Cy) = some (x == y || y == ("FlushError" : Str))
  fact : ∀ f d, T.defs f = some d → FactOf c f (stOf f) d
  mt : ∀ f d, T.defs f = some d → d.lam = false → defB d (stOf f) = true
  mtL : ∀ f d, T.defs f = some d → d.lam = true → lamB d (stOf f) = true ∧ ∃ F, c.mg "FlushError" = some (.ref F)
theorem tab_ok {c : Cfg} {T : Tab} {stOf : Str → Stmt} (h : TabOk c T stOf) : ∀ (n : Nat) (f : Str) (sem : List D → Store → R D), callN T n f = some sem → DefOk c n f sem := by
  intro n
  induction n using Nat.strongRecOn with
  | _ n ih =>
    intro f sem hs
    match n, hs with
    | m + 3, hs =>
      simp only [callN] at hs
      split at hs
      · rename_i d hd
        split at hs
        · cases hs
        · rename_i hl
          cases hs
          refine def_ok (k := m + 2) ⟨h.blt, h.glob, fun f' h' e => ih (m + 2) (by omega) f' h' e, h.exc, h.pair, fun f' b => ?_⟩ (h.fact f d hd) (h.mt f d hd (by simpa using hl))
          cases hd' : T.defs f' with
          | none => exact snd_bad fun act S => by simp only [callLN, hd']
          | some d' =>
            cases hl' : d'.lam with
            | false => exact snd_bad fun act S => by simp only [callLN, hd', hl', Bool.false_eq_true, if_false]
            | true =>
              obtain ⟨k1, k2⟩ := h.mtL f' d' hd' hl'
              refine s_callL (k := m) ?_ (sndE (C := Cx.lam { glob := T.glob, exc := T.exc, call := callN T (m + 2), callL := callLN T (m + 2), act := fun _ => .bad, inner := callN T m }) ⟨h.blt, h.glob, fun f2 h2 e => ih m (by omega) f2 h2 e, h.exc, h.pair, fun f2 b2 => snd_bad fun _ _ => rfl⟩ b)
              have e : (fun act S => runL { glob := T.glob, exc := T.exc, call := callN T (m + 1), callL := fun _ _ _ => .bad, act := fun _ => .bad, inner := fun _ => none } d' act S) = callLN T (m + 2) f' := by
                funext act S
                simp only [callLN, hd', hl', if_true]
                rfl
              show LamOk c (m + 1) f' (callLN T (m + 2) f')
              rw [← e]
              exact lam_ok (fun act => ⟨h.blt, h.glob, fun f2 h2 e => ih (m + 1) (by omega) f2 h2 e, h.exc, h.pair, fun f2 b2 => snd_bad fun _ _ => rfl⟩) k2 (h.fact f' d' hd') k1
      · cases hs
end FT
end

section
set_option Elab.async false
set_option linter.all false
set_option maxRecDepth 100000
set_option autoImplicit false
/-! FT.End: a law's def called with the script. -/
namespace FT
open PySem L2 LamX PySem.Spec PyProof.Rows

section
variable {P : Program} {w : World} {K : PySem.W.Frag} {mg mb : Str → Option Value} {k : Nat} {fa a : Addr} {cs : List (Addr × Addr)} {tbl : List (Addr × Str)} {s₁ : Shared} {vs : List Value} {ns : List Int}
abbrev emptyT : Obj := { cls := .none, data := .fields #[] }
/-- from an abstract heap in which nothing but the script and the tables may be tracked -/
theorem law_core {sem : List D → Store → R D} {H : Hp} (KX : K.In s₁.heap) (hns : s₁.heap.Ns mainGlobals mg) (hb : s₁.heap.Ns builtinsNs mb) (hbb : ∀ x : Str, x ≠ "__name__" → mb x = bootBuiltins x) (lim : s₁.heap.NoLimit) (hg : s₁.gens = #[])
    (hT : ∀ p ∈ cs, s₁.heap.get? p.2 = some emptyT) (nT : ∀ p ∈ cs, K.lookup p.2 = none) (hC : ∀ p ∈ cs, PySem.W.CodeHd s₁.heap p.1 p.2)
    (hbm : ∃ (bm : Addr) (ob : Obj), mg "__builtins__" = some (.ref bm) ∧ bm ≠ builtinsNs ∧ s₁.heap.get? bm = some ob ∧ ob.cls = .type "module" ∧ ob.dict = some builtinsNs ∧ ob.data = .plain)
    (ha : s₁.heap.get? a = some { cls := .type "list", data := .seq vs.toArray }) (room : Room k callerA) (law : mg "law" = some (.ref fa))
    (F : ∀ base : Heap, K.In base → base.Ns mainGlobals mg → (∀ p ∈ cs, TabB base mg p.1 p.2) → DefOk ⟨P, w, K, mg, base, tbl⟩ k "law" sem)
    (hH : ∀ b, H b ≠ none → b = a ∨ b ∈ cs.map Prod.snd) (hA : ∀ o, H a = some o → ∃ ob xs, o = .frz ob (.lst xs)) (hB : ∀ b ∈ cs.map Prod.snd, H b = some (.tbl #[])) (hK : H a ≠ none → K.lookup a = none) (hok : HOk P w H s₁.heap)
    (hsp : ∀ base : Heap, spC ⟨P, w, K, mg, base, tbl⟩ sem [.ref a] H (fun v _ => v = .bl true) fun _ _ _ => False) :
    codeAny (model P w) callerA (.call (.ref fa) ⟨[.ref a], []⟩) (fun r s' => r = .ok (.ret (.bool true)) ∧ OldK s₁.heap s'.heap ∧ s'.os = s₁.os ∧ AllBare s'.gens) s₁ := by
  have isT : ∀ b ∈ cs.map Prod.snd, s₁.heap.get? b = some emptyT := fun b hb => by
    obtain ⟨p, hp, rfl⟩ := List.mem_map.mp hb
    exact hT p hp
  -- an object that is no list and no empty table is not tracked
  have free : ∀ {b : Addr} {o : Obj}, s₁.heap.get? b = some o → (∀ us n, o.data ≠ .seq us n) → o.data ≠ .fields #[] → H b = none := fun {b o} e h1 h2 => by
    cases q : H b with
    | none => rfl
    | some u =>
      rcases hH b (by rw [q]; exact fun z => nomatch z) with z | z
      · subst z
        rw [ha] at e
        cases e
        exact absurd rfl (h1 _ _)
      · rw [isT b z] at e
        cases e
        exact absurd rfl h2
  have down : ∀ {b : Addr} {o : Obj}, s₁.heap.get? b = some o → H b = none → (hidT s₁.heap H).get? b = some o := fun e n => hidT_get e n
  have nsD : ∀ {b : Addr} {m : Str → Option Value}, s₁.heap.Ns b m → (hidT s₁.heap H).Ns b m := fun {b m} ⟨o, es, ep, e, d, r⟩ => ⟨o, es, ep, down e (free e (fun us n z => by rw [d] at z; cases z) fun z => by rw [d] at z; cases z), d, r⟩
  have hKb : K.In (hidT s₁.heap H) := fun b o e => down (KX b o e) (by
    cases q : H b with
    | none => rfl
    | some u =>
      rcases hH b (by rw [q]; exact fun z => nomatch z) with z | z
      · subst z
        rw [hK (by rw [q]; exact fun z => nomatch z)] at e
        cases e
      · obtain ⟨p, hp, rfl⟩ := List.mem_map.mp z
        rw [nT p hp] at e
        cases e)
  have hM : L2.Mod K mg (hidT s₁.heap H) := by
    obtain ⟨mc, l1, l2⟩ := lim
    exact ⟨hKb, nsD hns, ⟨mb, nsD hb, hbb⟩, ⟨mc, nsD l1, l2⟩⟩
  have TB : ∀ p ∈ cs, TabB (hidT s₁.heap H) mg p.1 p.2 := fun p hp => by
    have here := hT p hp
    obtain ⟨og, esg, epg, eg, dg, _⟩ := id hns
    refine ⟨?_, ?_, fun z => ?_⟩
    · obtain ⟨o, us, file, tf, flags, tg, inF, text, tt, e1, r1, r2, r3, r4⟩ := hC p hp
      refine ⟨o, us, file, tf, flags, tg, inF, text, tt, down e1 (free e1 (fun us' n z => ?_) fun z => ?_), r1, r2, r3, r4⟩
      · rw [r2] at z; cases z
      · rw [r2] at z; cases z
        simp at r3
    · obtain ⟨bm, ob, b1, b2, b3, b4, b5, b6⟩ := hbm
      refine ⟨bm, ob, b1, b2, fun q => ?_, fun q => ?_, down b3 (free b3 (fun us' n z => ?_) fun z => ?_), b4, b5, b6⟩
      · rw [q, eg] at b3; cases b3
        rw [dg] at b6; cases b6
      · rw [q, here] at b3; cases b3; cases b6
      · rw [b6] at z; cases z
      · rw [b6] at z; cases z
    · rw [z, here] at eg; cases eg; cases dg
  have e0 : Env0 P w K mg (hidT s₁.heap H) callerA [] s₁ H := ⟨rfl, hM, fun b o e => of_hidT e, Nat.le_of_eq (hidT_size _ _), trivial, fun b hb => absurd (show b ∈ ([] : List Addr) from hb) (by simp), hok, .of_eq hg⟩
  obtain ⟨f2, fd, ps, m1, _, G, hbi⟩ := (F _ hKb (nsD hns) TB).ex
  have m2 : mg "law" = some (.ref f2) := m1
  rw [law] at m2
  cases m2
  have hl := G.len _ _ _ _ (hsp (hidT s₁.heap H))
  have hbd := hbi s₁ [.ref a] KX (by rw [List.append_nil, ← hl]; rfl)
  rw [List.append_nil] at hbd
  refine codeAny_mono (G.run callerA [] s₁ H ⟨[.ref a], []⟩ [.ref a] [.ref a] _ _ rfl room e0 hbd (.cons rfl .nil) (hsp _)) fun r s' h => ?_
  match r, h with
  | .error e, ⟨_, _, _, _, _, _, _, _, _, _, _, _, z⟩ => exact z.elim
  | .ok .next, h => exact h.elim
  | .ok .brk, h => exact h.elim
  | .ok .cont, h => exact h.elim
  | .ok (.ret u), ⟨v, H', os, bare, un, hok', r', q⟩ =>
    have q' : v = .bl true := q
    subst q'
    have hu : u = Value.bool true := r'
    subst hu
    have kept : ∀ b o, b ∉ cs.map Prod.snd → s₁.heap.get? b = some o → s'.heap.get? b = some o := fun b o nb e => by
      cases q : H b with
      | none => exact un.keep b o e q (fun z => absurd (show b ∈ ([] : List Addr) from z) (by simp)) (by simp)
      | some u =>
        rcases hH b (by rw [q]; exact fun z => nomatch z) with z | z
        · subst z
          obtain ⟨ob, xs, z⟩ := hA u q
          subst z
          obtain ⟨e1, _⟩ := hok b _ q
          obtain ⟨e2, _⟩ := hok' b _ (un.frzs b ob _ q)
          rw [e] at e1
          cases e1
          exact e2
        · exact absurd z nb
    have grown : ∀ p ∈ cs, ∃ more : Array Value, s'.heap.get? p.2 = some { cls := .none, data := .fields more } := fun p hp => by
      obtain ⟨more, z⟩ := un.tbls p.2 #[] (hB p.2 (List.mem_map.mpr ⟨p, hp, rfl⟩))
      exact ⟨_, hok' p.2 _ z⟩
    refine ⟨rfl, ⟨fun b o e => ?_, fun b o e => ?_⟩, os, bare⟩
    · by_cases nb : b ∈ cs.map Prod.snd
      · obtain ⟨p, hp, rfl⟩ := List.mem_map.mp nb
        obtain ⟨more, hm⟩ := grown p hp
        rw [hT p hp] at e
        cases e
        exact .inr (.inl ⟨((hC p hp).tab (hT p hp)).isCodeTable, rfl, #[], more, rfl, by rw [Array.empty_append]; exact hm⟩)
      · exact .inl (kept b o nb e)
    · by_cases nb : b ∈ cs.map Prod.snd
      · obtain ⟨p, hp, rfl⟩ := List.mem_map.mp nb
        obtain ⟨more, hm⟩ := grown p hp
        exact ⟨_, hm⟩
      · exact ⟨o, kept b o nb e⟩
theorem rep_ints {c : Cfg} {g : G} : ∀ ns : List Int, RepAll c g (ns.map .int) (ns.map V.int)
  | [] => .nil
  | n :: ns => .cons (.int n) (rep_ints ns)
/-- law(script) -/
theorem law_runs {sem : List D → Store → R D} (KX : K.In s₁.heap) (hns : s₁.heap.Ns mainGlobals mg) (hb : s₁.heap.Ns builtinsNs mb) (hbb : ∀ x : Str, x ≠ "__name__" → mb x = bootBuiltins x) (lim : s₁.heap.NoLimit) (hg : s₁.gens = #[])
    (hT : ∀ p ∈ cs, s₁.heap.get? p.2 = some emptyT) (nT : ∀ p ∈ cs, K.lookup p.2 = none) (hC : ∀ p ∈ cs, PySem.W.CodeHd s₁.heap p.1 p.2)
    (hbm : ∃ (bm : Addr) (ob : Obj), mg "__builtins__" = some (.ref bm) ∧ bm ≠ builtinsNs ∧ s₁.heap.get? bm = some ob ∧ ob.cls = .type "module" ∧ ob.dict = some builtinsNs ∧ ob.data = .plain)
    (ha : s₁.heap.get? a = some { cls := .type "list", data := .seq vs.toArray }) (hi : IntsAre vs ns) (hz : ns.length ≤ sizeLine) (room : Room k callerA) (law : mg "law" = some (.ref fa)) (htb : ∀ p ∈ tbl, p.1 ∈ cs.map Prod.snd)
    (F : ∀ base : Heap, K.In base → base.Ns mainGlobals mg → (∀ p ∈ cs, TabB base mg p.1 p.2) → DefOk ⟨P, w, K, mg, base, tbl⟩ k "law" sem) (holds : ∃ S', sem [.lst (ns.map .int)] [] = .ok (.bl true) S') :
    codeAny (model P w) callerA (.call (.ref fa) ⟨[.ref a], []⟩) (fun r s' => r = .ok (.ret (.bool true)) ∧ OldK s₁.heap s'.heap ∧ s'.os = s₁.os ∧ AllBare s'.gens) s₁ := by
  have rv := vals_ints hi
  have notT : a ∉ cs.map Prod.snd := fun z => by
    obtain ⟨p, hp, e⟩ := List.mem_map.mp z
    have q := hT p hp
    rw [e, ha] at q
    cases congrArg Obj.data (Option.some.inj q)
  let own : HO := .frz { cls := .type "list", data := .seq vs.toArray } (.lst (ns.map V.int))
  let H : Hp := fun b => if b ∈ cs.map Prod.snd then some (.tbl #[]) else if b = a ∧ K.lookup a = none then some own else none
  have h1 : ∀ b ∈ cs.map Prod.snd, H b = some (.tbl #[]) := fun b hb => if_pos hb
  have h2 : ∀ b, b ∉ cs.map Prod.snd → H b = if b = a ∧ K.lookup a = none then some own else none := fun b hb => if_neg hb
  have h3 : ∀ b o, H b = some o → (b ∈ cs.map Prod.snd ∧ o = .tbl #[]) ∨ (b = a ∧ K.lookup a = none ∧ o = own) := fun b o e => by
    by_cases hb : b ∈ cs.map Prod.snd
    · rw [h1 b hb] at e
      cases e
      exact .inl ⟨hb, rfl⟩
    · rw [h2 b hb] at e
      split at e
      · rename_i z
        cases e
        exact .inr ⟨z.1, z.2, rfl⟩
      · cases e
  refine law_core (H := H) (sem := sem) KX hns hb hbb lim hg hT nT hC hbm ha room law F (fun b n => ?_) (fun o e => ?_) h1 (fun n => ?_) (fun b o e => ?_) fun base => ?_
  · cases e : H b with
    | none => exact absurd e n
    | some o => exact (h3 b o e).elim (fun z => .inr z.1) fun z => .inl z.1
  · rcases h3 a o e with z | z
    · exact absurd z.1 notT
    · exact ⟨_, _, z.2.2⟩
  · cases e : H a with
    | none => exact absurd e n
    | some o => exact (h3 a o e).elim (fun z => absurd z.1 notT) fun z => z.2.1
  · rcases h3 b o e with ⟨z1, z2⟩ | ⟨z1, _, z2⟩
    · subst z2
      obtain ⟨p, hp, rfl⟩ := List.mem_map.mp z1
      exact hT p hp
    · subst z1 z2
      exact ⟨ha, by rw [List.length_map]; exact hz, vs, _, rv, ha⟩
  · obtain ⟨S', hS⟩ := holds
    let g : G := ⟨fun b => if b = a then H a else none, [], fun _ => none⟩
    have hF : ∀ b o, g.F b = some o → b = a ∧ K.lookup a = none ∧ o = own ∧ H a = some o := fun b o e => by
      have e : (if b = a then H a else none) = some o := e
      split at e
      · rename_i z
        rcases h3 a o e with q | q
        · exact absurd q.1 notT
        · exact ⟨z, q.2.1, q.2.2, e⟩
      · cases e
    refine ⟨[.lst (ns.map .int)], [], g, ⟨fun b o e => ?_, fun b o e => (by cases e), fun b o e => (by cases e), fun b ps e => ?_, rfl, fun i b m e1 e2 => (by simp at e2), fun i j b o o' e1 e2 e3 e4 => (by simp at e3), fun p hp => ?_, fun b ps e => (by cases e)⟩, .cons ?_ .nil, ?_⟩
    · obtain ⟨rfl, _, _, q⟩ := hF b o e
      exact q
    · exact nomatch (show HO.tbl ps = HO.frz { cls := .type "list", data := .seq vs.toArray } (.lst (ns.map V.int)) from (hF b _ e).2.2.1)
    · exact TabS.nil (h1 p.1 (htb p hp))
    · refine .lst ?_ (rep_ints ns)
      cases hk : K.lookup a with
      | none =>
        refine .inl (.inr ⟨{ cls := .type "list", data := .seq vs.toArray }, ?_⟩)
        show (if a = a then H a else none) = _
        rw [if_pos rfl, h2 a notT, if_pos ⟨rfl, hk⟩]
      | some o =>
        have e := KX a o hk
        rw [ha] at e
        cases e
        exact .inr ⟨vs, _, hk, by rw [List.length_map]; exact hz, rv⟩
    · rw [hS]
      intro H' g' l rs v q
      cases q
      rfl
end
end FT
end

section
set_option Elab.async false
set_option linter.all false
set_option maxRecDepth 100000
set_option autoImplicit false
/-! FT.Hd: a law's end, its facts read by one Hook. -/
namespace FT
open PySem L2 LamX PySem.Spec PyProof.Rows

/-! ### the part of the heap: no empty tables -/
def isTb (o : Obj) : Bool := match o with
  | ⟨.none, none, .fields vs, sl⟩ => vs.isEmpty && sl.isEmpty
  | _ => false
theorem isTb_of {o : Obj} (h : isTb o = true) : o = emptyT := by
  unfold isTb at h
  split at h
  · rename_i vs sl
    rw [Bool.and_eq_true, Array.isEmpty_iff, Array.isEmpty_iff] at h
    rw [h.1, h.2]
  · cases h
def frH (g : Addr → Option Obj) (as : List Addr) : PySem.W.Frag := (He.frG g as).filter fun p => !isTb p.2
theorem lookup_mem {α : Type} {a : Addr} {o : α} : ∀ {l : List (Addr × α)}, l.lookup a = some o → (a, o) ∈ l
  | (b, x) :: r, h => by
    rw [List.lookup_cons] at h
    split at h
    · rename_i e
      cases h
      rw [beq_iff_eq.mp e]; exact List.mem_cons_self ..
    · exact List.mem_cons_of_mem _ (lookup_mem h)
theorem frG_mem {g : Addr → Option Obj} {as : List Addr} {a : Addr} {o : Obj} (h : (a, o) ∈ He.frG g as) : g a = some o := by
  unfold He.frG at h
  obtain ⟨b, _, e⟩ := List.mem_filterMap.mp h
  cases hb : g b with
  | none => rw [hb] at e; cases e
  | some ob => rw [hb] at e; cases e; exact hb
theorem frH_in {as : List Addr} {h : Heap} : (frH h.get? as).In h := fun a o e => frG_mem ((List.mem_filter.mp (lookup_mem e)).1)
theorem frH_tb {g : Addr → Option Obj} {as : List Addr} {P : Addr} (h : g P = some emptyT) : (frH g as).lookup P = none := by
  cases e : (frH g as).lookup P with
  | none => rfl
  | some o =>
    have m := lookup_mem e
    have hg := frG_mem (List.mem_filter.mp m).1
    rw [h] at hg
    cases hg
    have := (List.mem_filter.mp m).2
    exact absurd this (by simp only [Bool.not_eq_true]; rfl)

/-! ### constants -/
mutual
def datB (K : PySem.W.Frag) : D → Value → Bool
  | .non, .none => true
  | .bl b, .bool c => b == c
  | .int i, .int j _ => decide (i = j)
  | .str x, .str y _ => decide (x = y)
  | .tup ds, .ref a => (match K.lookup a with
    | some ⟨.type n, _, .seq its _, _⟩ => n == "tuple" && decide (its.size ≤ sizeLine) && datBs K ds its.toList
    | _ => false)
  | _, _ => false
def datBs (K : PySem.W.Frag) : List D → List Value → Bool
  | [], [] => true
  | d :: ds, u :: us => datB K d u && datBs K ds us
  | _, _ => false
end
mutual
theorem datB_ok {c : Cfg} : ∀ (d : D) (u : Value), datB c.K d u = true → ∃ v, RelV v u ∧ ∀ g, Rep c g d v
  | .non, u, h => by cases u <;> first | (simp [datB] at h; done) | exact ⟨.non, rfl, fun _ => .non⟩
  | .bl b, u, h => by
    cases u <;> first | (simp [datB] at h; done) | skip
    rename_i x
    simp only [datB, beq_iff_eq] at h
    subst h
    exact ⟨.bl b, rfl, fun _ => .bl b⟩
  | .int i, u, h => by
    cases u <;> first | (simp [datB] at h; done) | skip
    rename_i x t
    simp only [datB, decide_eq_true_eq] at h
    subst h
    exact ⟨.int i, ⟨_, rfl⟩, fun _ => .int i⟩
  | .str i, u, h => by
    cases u <;> first | (simp [datB] at h; done) | skip
    rename_i x t
    simp only [datB, decide_eq_true_eq] at h
    subst h
    exact ⟨.str i, ⟨_, rfl⟩, fun _ => .str i⟩
  | .tup ds, u, h => by
    cases u <;> first | (simp [datB] at h; done) | skip
    rename_i a
    simp only [datB] at h
    split at h
    · rename_i n od its k sl hk
      simp only [Bool.and_eq_true, beq_iff_eq, decide_eq_true_eq] at h
      obtain ⟨⟨h1, h2⟩, h3⟩ := h
      subst h1
      obtain ⟨vs, r, q⟩ := datBs_ok ds its.toList h3
      exact ⟨.ref a, rfl, fun g => .tup (.inr ⟨_, its, k, hk, rfl, rfl, h2, r⟩) (q g)⟩
    · cases h
  | .lst _, u, h => by simp [datB] at h
  | .dct _, u, h => by simp [datB] at h
  | .obj _, u, h => by simp [datB] at h
  | .ins _ _, u, h => by simp [datB] at h
  | .exc _ _, u, h => by simp [datB] at h
  | .fn _, u, h => by simp [datB] at h
theorem datBs_ok {c : Cfg} : ∀ (ds : List D) (us : List Value), datBs c.K ds us = true → ∃ vs, Vals vs us ∧ ∀ g, RepAll c g ds vs
  | [], [], _ => ⟨[], .nil, fun _ => .nil⟩
  | [], _ :: _, h => by simp [datBs] at h
  | _ :: _, [], h => by simp [datBs] at h
  | d :: ds, u :: us, h => by
    simp only [datBs, Bool.and_eq_true] at h
    obtain ⟨v, r, q⟩ := datB_ok d u h.1
    obtain ⟨vs, rs, qs⟩ := datBs_ok ds us h.2
    exact ⟨v :: vs, .cons r rs, fun g => .cons (q g) (qs g)⟩
end
/-- the module's name x holds d -/
def conB (K : PySem.W.Frag) (x : Str) (d : D) : Bool := match PySem.W.nsIn K mainGlobals x with
  | some (some u) => datB K d u && (match d, u with
    | .tup _, .ref a => (match K.lookup a with
      | some ⟨.type n, none, _, _⟩ => n == "tuple"
      | _ => false)
    | .tup _, _ => false
    | _, _ => true)
  | _ => false
theorem conB_ok {c : Cfg} {h : Heap} (X : c.K.In h) (G : h.Ns mainGlobals c.mg) {x : Str} {d : D} (e : conB c.K x d = true) : GlobOk c x d := by
  unfold conB at e
  split at e
  · rename_i u hu
    rw [Bool.and_eq_true] at e
    obtain ⟨v, r, q⟩ := datB_ok d u e.1
    refine ⟨u, v, PySem.W.mg_of X G hu, r, q, fun ys hy => ?_⟩
    subst hy
    have e2 := e.2
    cases u <;> first | (cases e2; done) | skip
    rename_i a
    dsimp only at e2
    split at e2
    · rename_i n dt sl hk
      cases v <;> first | (cases r; done) | skip
      case ref a' =>
        have : Value.ref a = Value.ref a' := r
        cases this
        exact ⟨a, _, rfl, hk, by rw [beq_iff_eq.mp e2], rfl⟩
      all_goals first | (obtain ⟨_, z⟩ := r; cases z; done) | cases r
    · cases e2
  · cases e

/-! ### ParseError -/
def isParBody : List Stmt → Bool
  | [.Expr (.Call (.Attribute (.Call (.Name s0 _) [] [] _) i0 p2) [.JoinedStr [.Constant (.str m) _ _, .FormattedValue (.Name l0 _) c0 none _] _] [] p7) _, .Assign [.Attribute (.Name s1 _) l1 _] (.Name l2 _) _] =>
    decide (s0 = ("super" : Str)) && decide (i0 = ("__init__" : Str)) && decide (l0 = ("line" : Str)) && decide (c0 = (-1 : Int)) && decide (s1 = ("self" : Str)) && decide (l1 = ("line" : Str)) && decide (l2 = ("line" : Str)) && decide (m.length ≤ 1000) && (p2.endLine == p7.line)
  | _ => false
theorem isParBody_ok {b : List Stmt} (h : isParBody b = true) : ∃ (m : Str) (n : Nat) (p0 p1 p2 p3 p4 p5 p6 p7 p8 q1 q2 q3 q4 : Pos), b = parBody m n p0 p1 p2 p3 p4 p5 p6 p7 p8 q1 q2 q3 q4 ∧ m.length ≤ 1000 ∧ (p2.endLine == p7.line) = true := by
  unfold isParBody at h
  split at h
  · simp only [Bool.and_eq_true, decide_eq_true_eq] at h
    obtain ⟨⟨⟨⟨⟨⟨⟨⟨rfl, rfl⟩, rfl⟩, rfl⟩, rfl⟩, rfl⟩, rfl⟩, h8⟩, h9⟩ := h
    exact ⟨_, _, _, _, _, _, _, _, _, _, _, _, _, _, _, rfl, h8, h9⟩
  · cases h
def oexB (K : PySem.W.Frag) (C : Addr) : Bool := (match K.lookup C with
  | some ⟨.type "type", _, .cls cd, sl⟩ => (match cd.mro, sl.toList with
    | .ref C' :: bm, [_, _, _, _, some (.builtin n), _] => C' == C && n == "ValueError.__new__" && !cd.hasDel && cd.hasDict && PySem.HandSPX.refsVE bm
    | _, _ => false)
  | _ => false) && He.eqO (PySem.W.findIn K (.ref C) "__setattr__") (some (some (.builtin "object.__setattr__"))) && decide (PySem.W.subIn K (.ref C) (.type "BaseException") = some true) && decide (PySem.W.typeIn K (.ref C) = some (.type "type")) && PySem.W.keepIn K (.ref C)
theorem oexB_ok {K : PySem.W.Frag} {C : Addr} (h : oexB K C = true) : OexC K C := by
  unfold oexB at h
  simp only [Bool.and_eq_true, decide_eq_true_eq] at h
  obtain ⟨⟨⟨⟨q, h1⟩, h2⟩, h3⟩, h4⟩ := h
  refine ⟨?_, He.eqO_ok h1, h2, h3, h4⟩
  split at q
  · rename_i dd cd sl ho
    split at q
    · rename_i C' bm k0 k1 k2 k3 n k5 hm hs
      simp only [Bool.and_eq_true, beq_iff_eq, Bool.not_eq_true'] at q
      obtain ⟨⟨⟨⟨rfl, rfl⟩, hdel⟩, hd1⟩, ht⟩ := q
      obtain ⟨nm, bs, mro, ns, qn, hd, sn, sub, ab, col, del⟩ := cd
      dsimp only at hm hdel hd1
      subst hm hdel hd1
      have hsl : sl = #[k0, k1, k2, k3, some (.builtin "ValueError.__new__"), k5] := by
        obtain ⟨l⟩ := sl
        simp only at hs
        rw [hs]
      subst hsl
      exact ⟨nm, qn, ns, bs, bm, sn, sub, ab, col, dd, k0, k1, k2, k3, k5, ho, ht⟩
    · cases q
  · cases q
abbrev PfV : Type := Option (Str × Str × Arguments × FuncBody × Scope × Addr × List Str × Value × Addr)
def parC (K : PySem.W.Frag) : Addr := He.ga K "ParseError"
def parF (K : PySem.W.Frag) : Addr := He.ma K (parC K) "__init__"
def parObs (K : PySem.W.Frag) : PfV := match K.lookup (parF K) with
  | some ⟨_, _, .func fd, _⟩ => some (fd.name, fd.qualname, fd.params, fd.body, fd.scope, fd.globals, fd.closure.map (·.1), fd.defaults, fd.builtins)
  | _ => none
def parCode (P : Program) (K : PySem.W.Frag) : Bool := match K.lookup (parF K) with
  | some ⟨_, _, .func fd, _⟩ => (match fd.code, fd.closure with
    | .ref cda, [(_, cc)] => PySem.W.codeIn K (.ref cda) "ParseError.__init__" && (match K.lookup cda with
      | some ⟨_, _, .fields vs, _⟩ => (match (vs[2]? : Option Value) with
        | some (.str file _) => (P.main.file : Str) == file
        | _ => false)
      | _ => false) && (match K.lookup cc with
      | some ⟨_, _, .cell (some (.ref C)), _⟩ => decide (C = parC K)
      | _ => false)
    | _, _ => false)
  | _ => false
def parB (P : Program) (K : PySem.W.Frag) : Bool := parCode P K && (PySem.W.clsIn K (parC K)).isSome && decide (PySem.W.mroIn K (parC K) (.ref (parC K)) = some true) && He.eqO (PySem.W.nsIn K mainGlobals "super") (some none) && He.eqO (PySem.W.nsIn K cStatics "thirdparty.any") (some none) &&
  He.eqO (PySem.W.ks_superIn K (parC K) (parC K) "__init__") (some (some (.builtin "ValueError.__init__"))) && decide (PySem.W.subIn K (.ref (parC K)) (.type "ValueError") = some true) && PySem.W.excInitIn K (parC K) [.type "ValueError", .type "Exception", .type "BaseException", .type "object"] "ValueError.__new__" &&
  oexB K (parC K) && He.eqO (PySem.W.findIn K (.ref (parC K)) "line") (some none) && He.eqO (PySem.W.findIn K (.ref (parC K)) "__init__") (some (some (.ref (parF K)))) && decide (PySem.W.typeIn K (.ref (parF K)) = some (.type "function")) && xfB K (parC K)
/-- its __init__ in the text -/
def parSt (P : Program) : Stmt := (P.main.body.findSome? fun s => match s with
  | .ClassDef n _ _ body _ _ .. => if n == ("ParseError" : Str) then body.find? (fun s => match s with
    | .FunctionDef n .. => n == ("__init__" : Str)
    | _ => false) else none
  | _ => none).getD (.Pass ⟨0, 0, 0, 0⟩)
def parVal (P : Program) : PfV := some ("__init__", "ParseError.__init__", defArgs (parSt P), .stmts (defBody (parSt P)), defScope (parSt P), mainGlobals, ["__class__"], .none, builtinsNs)
/-- what its text says -/
structure ParSyn (P : Program) : Prop where
  body : isParBody (defBody (parSt P)) = true
  head : ∃ ar, ((defArgs (parSt P)).posonlyargs ++ (defArgs (parSt P)).args).head? = some ar ∧ ar.arg = ("self" : Str)
  names : (defScope (parSt P)).names = parNames
  kind : (defScope (parSt P)).kind = .function
  co : (defScope (parSt P)).isCoroutine = false
  gen : (defScope (parSt P)).isGenerator = false
  sup : (P.main.scope.names.lookup ("super" : Str)).isSome = false
  pos : ∀ (kV doc pm ct : Value) (an : Option Addr) (cdv : Value) (cc a : Addr) (i : Int) (tk : Tok), bindArgs (PySem.W.ksFn "__init__" "ParseError.__init__" (defArgs (parSt P)) (defBody (parSt P)) (defScope (parSt P)) .none kV doc pm an cdv ct cc) ⟨[.ref a, .int i tk], []⟩ = pure [(("self" : Str), Value.ref a), (("line" : Str), Value.int i tk)]
  kw : ∀ (kV doc pm ct : Value) (an : Option Addr) (cdv : Value) (cc a : Addr) (i : Int) (tk : Tok), bindArgs (PySem.W.ksFn "__init__" "ParseError.__init__" (defArgs (parSt P)) (defBody (parSt P)) (defScope (parSt P)) .none kV doc pm an cdv ct cc) ⟨[.ref a], [("line", .int i tk)]⟩ = pure [(("self" : Str), Value.ref a), (("line" : Str), Value.int i tk)]
theorem par_ok {c : Cfg} (h : parB c.P c.K = true) (ho : parObs c.K = parVal c.P) (S : ParSyn c.P) : ParOk c (parC c.K) := by
  simp only [parB, Bool.and_eq_true, decide_eq_true_eq] at h
  obtain ⟨⟨⟨⟨⟨⟨⟨⟨⟨⟨⟨⟨a1, a2⟩, a3⟩, a4⟩, a5⟩, a6⟩, a7⟩, a8⟩, a9⟩, a10⟩, a11⟩, a12⟩, a13⟩ := h
  obtain ⟨cdD, hcd⟩ := Option.isSome_iff_exists.mp a2
  obtain ⟨m, n, p0, p1, p2, p3, p4, p5, p6, p7, p8, q1, q2, q3, q4, hb, hm, hl⟩ := isParBody_ok S.body
  obtain ⟨ar, ar1, ar2⟩ := S.head
  unfold parCode at a1
  unfold parObs at ho
  cases hk : c.K.lookup (parF c.K) with
  | none => rw [hk] at a1; cases a1
  | some ob =>
    obtain ⟨oc, od, dt, osl⟩ := ob
    rw [hk] at a1 ho
    cases dt <;> first | (cases a1; done) | skip
    rename_i fd
    obtain ⟨n1, n2, n3, n4, n5, n6, n7, n8, n9, n10, n11, n12, n13, n14, n15⟩ := fd
    simp only [parVal, Option.some.injEq, Prod.mk.injEq] at ho
    obtain ⟨h1, h2, h3, h4, h5, h6, h7, h9, h8⟩ := ho
    subst h1 h2 h3 h4 h5 h6 h8 h9
    dsimp only at a1
    cases n13 <;> first | (cases a1; done) | skip
    rename_i cda
    match n7, h7, a1 with
    | [], h7, _ => simp at h7
    | _ :: _ :: _, h7, _ => simp at h7
    | [(x7, cc)], h7, a1 =>
    dsimp only at a1
    simp only [List.map_cons, List.map_nil, List.cons.injEq, and_true] at h7
    subst h7
    simp only [Bool.and_eq_true] at a1
    obtain ⟨⟨b1, b2⟩, b3⟩ := a1
    cases hcda : c.K.lookup cda with
    | none => rw [hcda] at b2; cases b2
    | some obc =>
      obtain ⟨ccl, cdd, dtc, ccs⟩ := obc
      rw [hcda] at b2
      cases dtc <;> first | (cases b2; done) | skip
      rename_i vs
      dsimp only at b2
      cases hv : vs[2]? with
      | none => rw [hv] at b2; cases b2
      | some vv =>
        rw [hv] at b2
        cases vv <;> first | (cases b2; done) | skip
        rename_i file tf
        dsimp only at b2
        cases hcc : c.K.lookup cc with
        | none => rw [hcc] at b3; cases b3
        | some obx =>
          obtain ⟨cl, cld, dtx, csl⟩ := obx
          rw [hcc] at b3
          split at b3
          · rename_i cl' cld' C' csl' e
            rw [decide_eq_true_eq] at b3
            subst b3
            cases e
            refine ⟨parF c.K, ⟨m, n, p0, p1, p2, p3, p4, p5, p6, p7, p8, q1, q2, q3, q4, defArgs (parSt c.P), defScope (parSt c.P), .none, n9, n10, n11, n14, oc, n12, od, osl, cc, cda, vs, file, tf, ccl, cl, cdd, cld, ccs, csl, cdD, ar, ?_, b1, hcda, hv, b2, hcc, hcd, a3, He.eqO_ok a4, ar1, ar2, S.names, S.kind, S.co, S.gen, hm, S.sup, hl, He.eqO_ok a5, He.eqO_ok a6, a7, a8⟩, oexB_ok a9, He.eqO_ok a10, He.eqO_ok a11, a12, xfB_ok a13, ?_, ?_⟩
            · rw [← hb]
              exact hk
            · intro s a i tk fd oc od osl e
              rw [hk] at e
              cases e
              exact .of_eq (S.pos ..)
            · intro s a i tk fd oc od osl e
              rw [hk] at e
              cases e
              exact .of_eq (S.kw ..)
          · cases b3

/-! ### a law's data -/
structure LawD where
  prog : Program
  consts : List (Str × D)
  excs : List Str
  defs : List (Str × Def)
def LawD.st (L : LawD) (f : Str) : Stmt := (L.prog.main.body.find? fun s => match s with
  | .FunctionDef n .. => n == f
  | _ => false).getD (.Pass ⟨0, 0, 0, 0⟩)
def LawD.tab (L : LawD) : Tab := { glob := fun x => L.consts.lookup x, exc := fun x => L.excs.contains x, defs := fun x => L.defs.lookup x }
def LawD.fnD (L : LawD) (f : Str) : He.FnD := ⟨(f, none), f, f, defArgs (L.st f), defBody (L.st f), defScope (L.st f)⟩
/-- the code object of a def, its table -/
def codA (K : PySem.W.Frag) (f : Str) : Addr := match K.lookup (He.ga K f) with
  | some ⟨_, _, .func fd, _⟩ => (match fd.code with
    | .ref c => c
    | _ => 0)
  | _ => 0
def codR (K : PySem.W.Frag) (f : Str) : Bool := match K.lookup (He.ga K f) with
  | some ⟨_, _, .func fd, _⟩ => (match fd.code with
    | .ref _ => true
    | _ => false)
  | _ => false
theorem codR_ok {K : PySem.W.Frag} {f : Str} {oc : Value} {od : Option Addr} {fd : FuncData} {osl : Array (Option Value)} (lk : K.lookup (He.ga K f) = some ⟨oc, od, .func fd, osl⟩) (h : codR K f = true) : fd.code = .ref (codA K f) := by
  unfold codR at h
  unfold codA
  rw [lk] at h ⊢
  dsimp only at h ⊢
  cases e : fd.code <;> rw [e] at h <;> first | (cases h; done) | rfl
def tbA (K : PySem.W.Frag) (f : Str) : Addr := match K.lookup (codA K f) with
  | some ⟨_, _, .fields vs, _⟩ => (match (vs[11]? : Option Value) with
    | some (.ref P) => P
    | _ => 0)
  | _ => 0
def LawD.lms (L : LawD) : List Str := (L.defs.filter fun p => p.2.lm).map (·.1)
def veB : List Value := [.type "ValueError", .type "Exception", .type "BaseException", .type "object"]
def excM (K : PySem.W.Frag) (x : Str) : Bool := isPE x || (He.Fa.exc x).ok K
def excB (K : PySem.W.Frag) (x : Str) : Bool := He.eqO (PySem.W.nsIn K mainGlobals x) (some (some (.ref (He.ga K x)))) && excM K x && decide (PySem.W.exmOne K (.ref (He.ga K x)) (.ref (He.ga K "FlushError")) = some true) &&
  He.eqO (PySem.W.findIn K (.ref (He.ga K x)) "__getattribute__") (some (some (.builtin "BaseException.__getattribute__"))) && He.eqO (PySem.W.findIn K (.ref (He.ga K x)) "__getattr__") (some none) && PySem.W.hasDictIn K (He.ga K x) &&
  He.eqO (PySem.W.findIn K (.ref (He.ga K x)) "__class__") (some (some (.builtin "object.__class__"))) && He.eqO (PySem.W.specialIn K (.builtin "object.__class__") "__get__") (some (some (.builtin "getset_descriptor.__get__"))) &&
  decide (PySem.W.takesIn K (.builtin "object.__class__") = some true) && decide (PySem.W.mroIn K (He.ga K x) (.type "object") = some true) && decide (PySem.W.subIn K (.ref (He.ga K x)) (.type "BaseException") = some true)
def LawD.par (L : LawD) : Bool := L.excs.contains "ParseError"
def LawD.facts (L : LawD) (K : PySem.W.Frag) : Bool :=
  (bltNames.all fun x => He.eqO (PySem.W.nsIn K mainGlobals x) (some none)) && (L.consts.all fun p => conB K p.1 p.2) && (L.excs.all fun x => excB K x) &&
  (L.excs.all fun x => L.excs.all fun y => decide (PySem.W.kitOne K (.ref (He.ga K x)) (.ref (He.ga K y)) = some (x == y || y == ("FlushError" : Str)))) && (L.excs.all fun x => decide (PySem.W.kitOne K (.ref (He.ga K x)) (.type "ValueError") = some true)) &&
  He.eqO (PySem.W.nsIn K mainGlobals "FlushError") (some (some (.ref (He.ga K "FlushError")))) &&
  (L.defs.all fun p => He.eqO (PySem.W.nsIn K mainGlobals p.1) (some (some (.ref (He.ga K p.1)))) && PySem.W.keepIn K (.ref (He.ga K p.1)) && (He.Fa.code (p.1, none) p.1).ok K) &&
  (L.lms.all fun f => codR K f && PySem.W.codeHdIn K (codA K f) (tbA K f)) && decide (L.lms.map (tbA K)).Nodup && (!L.par || parB L.prog K)
def LawD.tabs (L : LawD) (g : Addr → Option Obj) (K : PySem.W.Frag) : Bool := L.lms.all fun f => match g (tbA K f) with
  | some o => isTb o
  | none => false
abbrev HdA : Type := Bool × List He.FnV × PfV
def LawD.obsK (L : LawD) (g : Addr → Option Obj) (K : PySem.W.Frag) : HdA := (L.facts K && L.tabs g K, L.defs.map (fun p => He.fnObs K (p.1, none)), if L.par then parObs K else none)
def LawD.obsG (L : LawD) (n : Nat) (g : Addr → Option Obj) : HdA := L.obsK g (frH g (if L.par then cStatics :: He.asD g n else He.asG g n))
def LawD.val (L : LawD) : HdA := (true, L.defs.map (fun p => (L.fnD p.1).val), if L.par then parVal L.prog else none)
structure LawD.Says (L : LawD) (K : PySem.W.Frag) (h : Heap) : Prop where
  inn : K.In h
  facts : L.facts K = true
  fns : (L.defs.map fun p => He.fnObs K (p.1, none)) = L.defs.map fun p => (L.fnD p.1).val
  tabs : ∀ f ∈ L.lms, h.get? (tbA K f) = some emptyT ∧ K.lookup (tbA K f) = none
  par : L.par = true → parObs K = parVal L.prog
def LawD.hook (L : LawD) (n : Nat) : PySem.W.Hook where
  α := HdA
  obs := fun s => L.obsG n s.heap.get?
  val := fun _ => L.val
  says := fun _ h => ∃ K, L.Says K h
  of := fun _ s e => by
    have e1 : (L.facts (frH s.heap.get? (if L.par then cStatics :: He.asD s.heap.get? n else He.asG s.heap.get? n)) && L.tabs s.heap.get? (frH s.heap.get? (if L.par then cStatics :: He.asD s.heap.get? n else He.asG s.heap.get? n))) = true := congrArg (fun z : HdA => z.1) e
    rw [Bool.and_eq_true] at e1
    refine ⟨_, frH_in, e1.1, congrArg (fun z : HdA => z.2.1) e, fun f hf => ?_, fun hp => ?_⟩
    · have := List.all_eq_true.mp e1.2 f hf
      split at this
      · rename_i o ho
        rw [isTb_of this] at ho
        exact ⟨ho, frH_tb ho⟩
      · cases this
    · have := congrArg (fun z : HdA => z.2.2) e
      dsimp only [LawD.obsG, LawD.obsK, LawD.val] at this
      simp only [hp, if_true] at this ⊢
      exact this
  keeps := fun _ _ _ ⟨K, s⟩ k => ⟨K, PySem.W.Frag.In.keeps s.inn k, s.facts, s.fns, fun f hf => ⟨k _ _ (s.tabs f hf).1, (s.tabs f hf).2⟩, s.par⟩
theorem LawD.obs_eq {L : LawD} {n : Nat} {g : Addr → Option Obj} {s : Shared} (h : ∀ a, g a = s.heap.get? a) : L.obsG n g = (L.hook n).obs s := by
  have e : g = s.heap.get? := funext h
  rw [e]
  rfl
/-- the arguments of a def come to its parameters -/
def BindOk (L : LawD) (f : Str) (d : Def) : Prop := ∀ (kV doc pm : Value) (an : Option Addr) (cdv ct : Value) (us : List Value), us.length = (d.N.take d.ps).length →
  bindArgs (PySem.W.fnOf f f (defArgs (L.st f)) (defBody (L.st f)) (defScope (L.st f)) .none kV doc pm an cdv ct) ⟨us, []⟩ = pure ((d.N.take d.ps).zip us)
/-- each def is the text's -/
def DefsOk (L : LawD) : Prop := ∀ p ∈ L.defs, BindOk L p.1 p.2 ∧ (if p.2.lam then lamB p.2 (L.st p.1) else defB p.2 (L.st p.1)) = true
section
variable {L : LawD} {K : PySem.W.Frag} {h : Heap} {w : World} {mg : Str → Option Value} {base : Heap}
theorem lookup_memS {α : Type} {a : Str} {o : α} : ∀ {l : List (Str × α)}, l.lookup a = some o → (a, o) ∈ l
  | (b, x) :: r, h => by
    rw [List.lookup_cons] at h
    split at h
    · rename_i e
      cases h
      rw [beq_iff_eq.mp e]; exact List.mem_cons_self ..
    · exact List.mem_cons_of_mem _ (lookup_memS h)
def LawD.tbl (L : LawD) (K : PySem.W.Frag) : List (Addr × Str) := L.lms.map fun f => (tbA K f, f ++ ".<locals>." ++ "<lambda>")
def LawD.cs (L : LawD) (K : PySem.W.Frag) : List (Addr × Addr) := L.lms.map fun f => (codA K f, tbA K f)
theorem mem_lms {f : Str} {d : Def} (h : (f, d) ∈ L.defs) (hl : d.lm = true) : f ∈ L.lms := List.mem_map.mpr ⟨(f, d), List.mem_filter.mpr ⟨h, hl⟩, rfl⟩
theorem nodup_map {α β : Type} {f : α → β} : ∀ {l : List α}, (l.map f).Nodup → ∀ a ∈ l, ∀ b ∈ l, f a = f b → a = b
  | x :: l, h, a, ha, b, hb, e => by
    rw [List.map_cons, List.nodup_cons] at h
    rcases List.mem_cons.mp ha with ha | ha
    · rcases List.mem_cons.mp hb with hb | hb
      · rw [ha, hb]
      · exact absurd (List.mem_map.mpr ⟨b, hb, by rw [← e, ha]⟩) h.1
    · rcases List.mem_cons.mp hb with hb | hb
      · exact absurd (List.mem_map.mpr ⟨a, ha, by rw [e, hb]⟩) h.1
      · exact nodup_map h.2 a ha b hb e
theorem says_tab (X : K.In h) (sf : L.facts K = true) (sn : (L.defs.map fun p => He.fnObs K (p.1, none)) = L.defs.map fun p => (L.fnD p.1).val) (sp : L.par = true → parObs K = parVal L.prog ∧ ParSyn L.prog) (G : h.Ns mainGlobals mg) (dk : DefsOk L) (TB : ∀ p ∈ L.cs K, TabB base mg p.1 p.2) : TabOk ⟨L.prog, w, K, mg, base, L.tbl K⟩ L.tab L.st := by
  have hf := sf
  simp only [LawD.facts, Bool.and_eq_true, List.all_eq_true, decide_eq_true_eq] at hf
  obtain ⟨⟨⟨⟨⟨⟨⟨⟨⟨f1, f2⟩, f3⟩, f4⟩, f9⟩, f5⟩, f6⟩, f7⟩, f8⟩, f10⟩ := hf
  have hFE : mg "FlushError" = some (.ref (He.ga K "FlushError")) := PySem.W.mg_of X G (He.eqO_ok f5)
  have xg : ∀ x ∈ L.excs, mg x = some (.ref (He.ga K x)) := fun x hx => by
    have := f3 x hx
    simp only [excB, Bool.and_eq_true] at this
    exact PySem.W.mg_of X G (He.eqO_ok this.1.1.1.1.1.1.1.1.1.1)
  have xin : ∀ x, L.tab.exc x = true → x ∈ L.excs := fun x hx => by
    have : L.excs.contains x = true := hx
    simpa using this
  refine ⟨fun x hx => PySem.W.mg_none_of X G (He.eqO_ok (f1 x hx)), fun x d e => ?_, fun x hx => ?_, fun x y Cx Cy hx hy ex ey => ?_, fun f d e => ?_, fun f d e hl => ?_, fun f d e hl => ?_⟩
  · exact conB_ok (c := ⟨L.prog, w, K, mg, base, L.tbl K⟩) X G (f2 (x, d) (lookup_memS e))
  · have hx := xin x hx
    have b := f3 x hx
    simp only [excB, Bool.and_eq_true, decide_eq_true_eq] at b
    obtain ⟨⟨⟨⟨⟨⟨⟨⟨⟨⟨b1, b2⟩, b3⟩, b4⟩, b5⟩, b6⟩, b7⟩, b8⟩, b9⟩, b10⟩, b11⟩ := b
    have hm := xg x hx
    have hve := f9 x hx
    refine ⟨⟨_, hm⟩, fun hp C hC => ?_, fun hp C hC => ?_, fun C hC => ?_, fun C hC => ?_, fun C hC => ?_⟩
    · have hC : mg x = some (.ref C) := hC
      rw [hm] at hC
      cases hC
      unfold excM at b2
      rw [hp, Bool.false_or] at b2
      exact He.exc_ok b2
    · have hC : mg x = some (.ref C) := hC
      rw [hm] at hC
      cases hC
      have hx2 : x = "ParseError" := eq_of_beq hp
      subst hx2
      have hpar : L.par = true := by
        show L.excs.contains _ = true
        simpa using hx
      rw [hpar] at f10
      simp only [Bool.not_true, Bool.false_or] at f10
      exact par_ok (c := ⟨L.prog, w, K, mg, base, L.tbl K⟩) f10 (sp hpar).1 (sp hpar).2
    · have hC : mg x = some (.ref C) := hC
      rw [hm] at hC
      cases hC
      exact ⟨He.eqO_ok b4, He.eqO_ok b5, b11, b6, He.eqO_ok b7, He.eqO_ok b8, b9, b10⟩
    · have hC : mg x = some (.ref C) := hC
      rw [hm] at hC
      cases hC
      exact hve
    · have hC : mg x = some (.ref C) := hC
      rw [hm] at hC
      cases hC
      exact ⟨_, hFE, b3⟩
  · have ex : mg x = some (.ref Cx) := ex
    have ey : mg y = some (.ref Cy) := ey
    rw [xg x (xin x hx)] at ex
    rw [xg y (xin y hy)] at ey
    cases ex
    cases ey
    exact f4 x (xin x hx) y (xin y hy)
  · have m := lookup_memS e
    have a := f6 (f, d) m
    simp only at a
    obtain ⟨⟨a1, a2⟩, a3⟩ := a
    have hm : mg f = some (.ref (He.ga K f)) := PySem.W.mg_of X G (He.eqO_ok a1)
    have hfn : He.fnObs K (f, none) = (L.fnD f).val := List.map_inj_left.mp sn (f, d) m
    obtain ⟨oc, od, osl, kV, doc, pm, an, cdv, ct, lk, hcd⟩ := He.fn_ok (d := L.fnD f) hfn a3
    have hF : Fun K f f (L.st f) (He.ga K f) _ := fun_mk lk hcd a2
    refine ⟨_, _, hm, hF, hF.binds (dk (f, d) m).1, fun hl => ?_⟩
    have hlm := mem_lms m hl
    have hcr := (f7 f hlm).1
    have hcod : cdv = .ref (codA K f) := codR_ok lk hcr
    refine ⟨codA K f, tbA K f, hcod, TB _ (List.mem_map.mpr ⟨f, hlm, rfl⟩), List.mem_map.mpr ⟨f, hlm, rfl⟩, fun p hp ep => ?_⟩
    obtain ⟨f', hf', rfl⟩ := List.mem_map.mp hp
    rw [nodup_map f8 f' hf' f hlm ep]
  · have := (dk (f, d) (lookup_memS e)).2
    rw [if_neg (by rw [show (f, d).2.lam = d.lam from rfl, hl]; simp)] at this
    exact this
  · have := (dk (f, d) (lookup_memS e)).2
    rw [if_pos (show (f, d).2.lam = true from hl)] at this
    exact ⟨this, _, hFE⟩
end
/-- the end of a law -/
theorem law_end {L : LawD} {l : PySem.W.OpenLaw} {n k hn : Nat} {q : Program} {loose : List Str} {XP : (Str → Option Value) → Heap → Prop} {d : DefRec} {sem : List D → Store → R D} (hp : l.prog = L.prog)
    (hm : l.most = some n) (hn2 : n ≤ sizeLine) (hdf : d.params.defaults = []) (hname : d.name = "law") (hr : Room k callerA) (dk : DefsOk L) (psy : L.par = true → ParSyn L.prog) (hsem : callN L.tab k "law" = some sem) (holds : ∀ ns : List Int, ns.length ≤ n → (∀ z ∈ ns, Builtin.Int.intBits z ≤ 1048576) → ∃ S', sem [.lst (ns.map .int)] [] = .ok (.bl true) S') :
    PySem.W.WalkO q loose XP (L.hook hn).says l.row.toRowW d [] (fun f vs => PySem.call f vs) := by
  refine Att.attach_callB hm hdf fun w s₀ s₁ mg mb fa o pm cd doc a vs ns G Y ho hd hcd hmg hobj hints hlen hbits hg => ?_
  obtain ⟨K, s⟩ := Y
  rw [hname] at hmg
  rw [hp]
  have hf := s.facts
  simp only [LawD.facts, Bool.and_eq_true, List.all_eq_true, decide_eq_true_eq] at hf
  obtain ⟨⟨⟨_, f7⟩, f8⟩, _⟩ := hf
  have hT : ∀ p ∈ L.cs K, s₁.heap.get? p.2 = some emptyT ∧ K.lookup p.2 = none ∧ PySem.W.CodeHd s₁.heap p.1 p.2 := fun p hp => by
    obtain ⟨f, hf, rfl⟩ := List.mem_map.mp hp
    exact ⟨(s.tabs f hf).1, (s.tabs f hf).2, PySem.W.codeHd_of_K s.inn (f7 f hf).2⟩
  refine law_runs (cs := L.cs K) (tbl := L.tbl K) (sem := sem) (k := k) s.inn G.T.g G.T.b G.T.builtins G.T.nolimit hg (fun p hp => (hT p hp).1) (fun p hp => (hT p hp).2.1) (fun p hp => (hT p hp).2.2) G.T.bmain hobj hints (Nat.le_trans hlen hn2) hr hmg (fun p hp => ?_) (fun base X Gb TB => tab_ok (says_tab X s.facts s.fns (fun hp => ⟨s.par hp, psy hp⟩) Gb dk TB) k "law" sem hsem) (holds ns hlen hbits)
  · obtain ⟨f, hf, rfl⟩ := List.mem_map.mp hp
    exact List.mem_map.mpr ⟨_, List.mem_map.mpr ⟨f, hf, rfl⟩, rfl⟩
end FT
end

section
set_option Elab.async false
set_option linter.all false
set_option maxRecDepth 100000
set_option autoImplicit false
/-! FT.PLa: running the evaluator by hand. -/
namespace FT
open PySem

theorem ofStr_inj {s t : String} : (Str.ofString s = Str.ofString t) = (s = t) := by
  apply propext
  constructor
  · intro h
    rw [Str.ofString_eq_toList, Str.ofString_eq_toList] at h
    injection h with h
    have h := congrArg Array.toList h
    simp only at h
    have h2 : s.toList = t.toList := by
      have inj : ∀ (l m : List Char), l.map Char.toNat = m.map Char.toNat → l = m := by
        intro l
        induction l with
        | nil => intro m h; cases m <;> simp at h ⊢
        | cons a l ih =>
          intro m h
          cases m with
          | nil => simp at h
          | cons b m =>
            simp only [List.map_cons, List.cons.injEq] at h
            have : a = b := Char.ext (UInt32.toNat_inj.mp h.1)
            rw [this, ih m h.2]
      exact inj _ _ h
    exact String.toList_inj.mp h2
  · intro h; rw [h]
theorem ofStr_beq {s t : String} : (Str.ofString s == Str.ofString t) = (s == t) := by
  rw [Bool.eq_iff_iff, beq_iff_eq, beq_iff_eq, ofStr_inj]

def Ok {α : Type} (r : R α) (Q : α → Store → Prop) : Prop := match r with
  | .ok a S => Q a S
  | _ => False
section
variable {α β : Type} {r : R α} {Q Q' : α → Store → Prop} {S : Store}
theorem Ok_ok {a : α} : Ok (.ok a S) Q = Q a S := rfl
theorem Ok_bind {f : α → Store → R β} {Q : β → Store → Prop} : Ok (r.bind f) Q = Ok r fun a S => Ok (f a S) Q := by cases r <;> rfl
theorem Ok_ofO {o : Option α} : Ok (R.ofO o S) Q = ∃ a, o = some a ∧ Q a S := by
  cases o with
  | none => simp [R.ofO, Ok]
  | some a => simp [R.ofO, Ok]
theorem Ok.mono (h : Ok r Q) (m : ∀ a S, Q a S → Q' a S) : Ok r Q' := by
  cases r with
  | ok a S => exact m a S h
  | ex _ _ => exact h
  | bad => exact h
theorem Ok.eq (h : Ok r Q) : ∃ a S, r = .ok a S ∧ Q a S := by
  cases r with
  | ok a S => exact ⟨a, S, rfl, h⟩
  | ex _ _ => exact h.elim
  | bad => exact h.elim
theorem Ok.of_eq {a : α} (e : r = .ok a S) (h : Q a S) : Ok r Q := by rw [e]; exact h
end

def cxN (T : Tab) (n : Nat) : Cx := { glob := T.glob, exc := T.exc, call := callN T (n + 2), callL := callLN T (n + 2), act := fun _ => .bad, inner := callN T n }
theorem callN_def {T : Tab} {n : Nat} {f : Str} {d : Def} (h : T.defs f = some d) (hl : d.lam = false) : callN T (n + 3) f = some (runD (cxN T n) d) := by
  simp only [callN, h, hl, Bool.false_eq_true, if_false]
  rfl
/-- f called at level n -/
def Run (T : Tab) (n : Nat) (f : Str) (ds : List D) (S : Store) : R D := match callN T n f with
  | some h => h ds S
  | none => .bad
theorem Run_def {T : Tab} {n : Nat} {f : Str} {d : Def} {ds : List D} {S : Store} (h : T.defs f = some d) (hl : d.lam = false) : Run T (n + 3) f ds S = runD (cxN T n) d ds S := by
  unfold Run
  rw [callN_def h hl]
end FT
end

section
set_option Elab.async false
set_option linter.all false
set_option maxRecDepth 100000
set_option autoImplicit false
/-! FT.PLb: the text of repr as codes, and that it tells the data. -/
namespace FT
open PySem

def plainC (c : Nat) : Bool := decide (32 ≤ c) && decide (c < 127) && c != 39 && c != 92
def plainS (s : Str) : Bool := s.cps.toList.all plainC
theorem printable : ∀ c, c < 127 → 32 ≤ c → Unicode.isPrintable c = true := by
  have : (List.range 127).all (fun c => !decide (32 ≤ c) || Unicode.isPrintable c) = true := by decide +kernel
  intro c h1 h2
  have := List.all_eq_true.mp this c (List.mem_range.mpr h1)
  simpa [h2] using this
theorem plainC_of {c : Nat} (h : plainC c = true) : 32 ≤ c ∧ c < 127 ∧ c ≠ 39 ∧ c ≠ 92 := by
  simp only [plainC, Bool.and_eq_true, decide_eq_true_eq, bne_iff_ne, ne_eq] at h
  exact ⟨h.1.1.1, h.1.1.2, h.1.2, h.2⟩
theorem reprChar_plain {c : Nat} (h : plainC c = true) : Builtin.Str.reprChar 39 c = [c] := by
  obtain ⟨h1, h2, h3, h4⟩ := plainC_of h
  unfold Builtin.Str.reprChar
  have e1 : (c == 39 || c == 92) = false := by simp [h3, h4]
  have e2 : (c == 10) = false := by simp; omega
  have e3 : (c == 13) = false := by simp; omega
  have e4 : (c == 9) = false := by simp; omega
  simp only [e1, e2, e3, e4, printable c h2 h1, Bool.false_eq_true, if_false, if_true]
theorem repr_foldl : ∀ (l : List Nat) (acc : Array Nat), l.all plainC = true → (l.foldl (fun out c => out ++ (Builtin.Str.reprChar 39 c).toArray) acc).toList = acc.toList ++ l
  | [], acc, _ => by simp
  | c :: l, acc, h => by
    simp only [List.all_cons, Bool.and_eq_true] at h
    rw [List.foldl_cons, repr_foldl l _ h.2, reprChar_plain h.1]
    simp
theorem reprText_plain {s : Str} (h : plainS s = true) : (reprText s).cps.toList = 39 :: s.cps.toList ++ [39] := by
  have hq : reprQuote s = 39 := by
    unfold reprQuote
    have : s.cps.contains 39 = false := by
      cases e : s.cps.contains 39 with
      | false => rfl
      | true =>
        have hm : 39 ∈ s.cps.toList := by simpa using e
        have := List.all_eq_true.mp h 39 hm
        cases this
    rw [this]; rfl
  unfold reprText
  rw [hq, ← Array.foldl_toList]
  simp only [Array.toList_push]
  rw [repr_foldl _ _ h]
  simp

/-! ### what may be told apart by repr -/
mutual
def wfD : D → Bool
  | .non | .bl _ => true
  | .int i => decide (i.natAbs < 10 ^ 20)
  | .str s => plainS s
  | .tup xs => wfDs xs
  | .lst xs => wfDs xs
  | .dct kvs => kvs.isEmpty
  | _ => false
def wfDs : List D → Bool
  | [] => true
  | d :: ds => wfD d && wfDs ds
end
def intC (i : Int) : List Nat := (toString i).toList.map Char.toNat
mutual
/-- repr, as codes -/
def sh : D → List Nat
  | .non => [78, 111, 110, 101]
  | .bl true => [84, 114, 117, 101]
  | .bl false => [70, 97, 108, 115, 101]
  | .int i => intC i
  | .str s => 39 :: s.cps.toList ++ [39]
  | .tup xs => 40 :: shs xs ++ (if xs.length == 1 then [44, 41] else [41])
  | .lst xs => 91 :: shs xs ++ [93]
  | .dct _ => [123, 125]
  | _ => []
def shs : List D → List Nat
  | [] => []
  | x :: xs => sh x ++ shT xs
def shT : List D → List Nat
  | [] => []
  | x :: xs => 44 :: 32 :: (sh x ++ shT xs)
end
theorem cps_append (a b : Str) : (a ++ b).cps.toList = a.cps.toList ++ b.cps.toList := by
  show (a.cps ++ b.cps).toList = _
  simp
theorem cps_lit (s : String) : (Str.ofString s).cps.toList = s.toList.map Char.toNat := by
  rw [Str.ofString_eq_toList]
theorem join_codes : ∀ (ts : List Str) (t : Str), (Str.join ", " (t :: ts)).cps.toList = t.cps.toList ++ ts.flatMap fun t => 44 :: 32 :: t.cps.toList
  | [], t => by simp [Str.join]
  | u :: ts, t => by
    show (t ++ (", " : Str) ++ Str.join ", " (u :: ts)).cps.toList = _
    rw [cps_append, cps_append, join_codes ts u, cps_lit]
    simp
theorem pyTs_len : ∀ xs : List D, (pyTs xs).length = xs.length
  | [] => rfl
  | _ :: xs => by simp [pyTs, pyTs_len xs]
mutual
theorem shown_codes : ∀ d : D, wfD d = true → (pyT d).shown.cps.toList = sh d
  | .non, _ => by simp only [pyT, PyData.shown, sh]; rw [cps_lit]; rfl
  | .bl true, _ => by simp only [pyT, PyData.shown, sh, if_true]; rw [cps_lit]; rfl
  | .bl false, _ => by simp only [pyT, PyData.shown, sh, Bool.false_eq_true, if_false]; rw [cps_lit]; rfl
  | .int i, _ => by simp only [pyT, PyData.shown, sh]; rw [cps_lit]; rfl
  | .str s, h => by simp only [wfD] at h; simp only [pyT, PyData.shown, sh]; exact reprText_plain h
  | .tup xs, h => by
    simp only [wfD] at h
    simp only [pyT, PyData.shown_tuple, sh]
    rw [cps_append, cps_append, cps_lit, pyTs_len]
    have e : (Str.join ", " (PyData.shownAll (pyTs xs))).cps.toList = shs xs := by
      cases xs with
      | nil => simp only [pyTs, PyData.shownAll, Str.join, shs, Str.empty]
      | cons x xs =>
        simp only [wfDs, Bool.and_eq_true] at h
        simp only [pyTs, PyData.shownAll]
        rw [join_codes, shown_codes x h.1, shT_codes xs h.2]
        simp only [shs]
    rw [e]
    cases xs.length == 1 <;> simp only [Bool.false_eq_true, if_false, if_true, cps_lit] <;> rfl
  | .lst xs, h => by
    simp only [wfD] at h
    simp only [pyT, PyData.shown_list, sh]
    rw [cps_append, cps_append, cps_lit, cps_lit]
    have e : (Str.join ", " (PyData.shownAll (pyTs xs))).cps.toList = shs xs := by
      cases xs with
      | nil => simp only [pyTs, PyData.shownAll, Str.join, shs, Str.empty]
      | cons x xs =>
        simp only [wfDs, Bool.and_eq_true] at h
        simp only [pyTs, PyData.shownAll]
        rw [join_codes, shown_codes x h.1, shT_codes xs h.2]
        simp only [shs]
    rw [e]
    rfl
  | .dct kvs, h => by
    cases kvs with
    | nil =>
      simp only [pyT, pyTk, PyData.shown_dict, PyData.shownKv, sh, Str.join]
      rw [cps_append, cps_append, cps_lit, cps_lit]
      rfl
    | cons _ _ => simp [wfD] at h
  | .obj _, h => by simp [wfD] at h
  | .ins _ _, h => by simp [wfD] at h
  | .exc _ _, h => by simp [wfD] at h
  | .fn _, h => by simp [wfD] at h
theorem shT_codes : ∀ xs : List D, wfDs xs = true → (PyData.shownAll (pyTs xs)).flatMap (fun t => 44 :: 32 :: t.cps.toList) = shT xs
  | [], _ => by simp only [pyTs, PyData.shownAll, shT, List.flatMap_nil]
  | x :: xs, h => by
    simp only [wfDs, Bool.and_eq_true] at h
    simp only [pyTs, PyData.shownAll, shT, List.flatMap_cons]
    rw [shown_codes x h.1, shT_codes xs h.2]
    simp
end

/-! ### told apart -/
def numC (c : Nat) : Bool := decide (48 ≤ c ∧ c ≤ 57) || c == 45
theorem intC_num (i : Int) : (intC i).all numC = true := by
  have nat : ∀ n : Nat, ((toString n).toList.map Char.toNat).all (fun c => decide (48 ≤ c ∧ c ≤ 57)) = true := by
    intro n
    rw [List.all_eq_true]
    intro c hc
    obtain ⟨ch, h1, rfl⟩ := List.mem_map.mp hc
    have : (toString n).toList = Nat.toDigits 10 n := by
      show (Nat.repr n).toList = _
      simp [Nat.repr]
    rw [this] at h1
    have := Nat.isDigit_of_mem_toDigits (by decide) (by decide) h1
    simp [Char.isDigit] at this
    simp
    exact this
  cases i with
  | ofNat n =>
    rw [List.all_eq_true]
    intro c hc
    have := List.all_eq_true.mp (nat n) c hc
    simp only [numC, this, Bool.true_or]
  | negSucc n =>
    have e : (toString (Int.negSucc n)) = "-" ++ toString (n + 1) := rfl
    unfold intC
    rw [e]
    simp only [String.toList_append, List.map_append, List.all_append, Bool.and_eq_true]
    refine ⟨by decide, ?_⟩
    rw [List.all_eq_true]
    intro c hc
    have := List.all_eq_true.mp (nat (n + 1)) c hc
    simp only [numC, this, Bool.true_or]
theorem intC_inj {i j : Int} (h : intC i = intC j) : i = j := by
  have h1 : (toString i).toList = (toString j).toList := by
    have inj : ∀ (l m : List Char), l.map Char.toNat = m.map Char.toNat → l = m := by
      intro l
      induction l with
      | nil => intro m h; cases m <;> simp at h ⊢
      | cons a l ih =>
        intro m h
        cases m with
        | nil => simp at h
        | cons b m =>
          simp only [List.map_cons, List.cons.injEq] at h
          have : a = b := Char.ext (UInt32.toNat_inj.mp h.1)
          rw [this, ih m h.2]
    exact inj _ _ h
  have h2 : toString i = toString j := String.toList_inj.mp h1
  have h3 : (toString i).toInt? = (toString j).toInt? := by rw [h2]
  simpa using h3
/-- what may stand behind a text of repr -/
def endC : List Nat → Bool
  | [] => true
  | c :: _ => c == 44 || c == 41 || c == 93
theorem endC_num {c : Nat} {r : List Nat} (h : endC (c :: r) = true) : numC c = false := by
  simp only [endC, Bool.or_eq_true, beq_iff_eq] at h
  rcases h with (h | h) | h <;> subst h <;> rfl
theorem num_split : ∀ {a b r s : List Nat}, a.all numC = true → b.all numC = true → endC r = true → endC s = true → a ++ r = b ++ s → a = b ∧ r = s
  | [], [], r, s, _, _, _, _, h => ⟨rfl, h⟩
  | [], c :: b, r, s, _, hb, hr, _, h => by
    simp only [List.nil_append, List.cons_append] at h
    subst h
    rw [List.all_cons, endC_num hr] at hb
    cases hb
  | c :: a, [], r, s, ha, _, _, hs, h => by
    simp only [List.nil_append, List.cons_append] at h
    subst h
    rw [List.all_cons, endC_num hs] at ha
    cases ha
  | c :: a, d :: b, r, s, ha, hb, hr, hs, h => by
    simp only [List.cons_append, List.cons.injEq] at h
    rw [List.all_cons, Bool.and_eq_true] at ha hb
    obtain ⟨h1, h2⟩ := num_split ha.2 hb.2 hr hs h.2
    exact ⟨by rw [h.1, h1], h2⟩
theorem str_split : ∀ {a b r s : List Nat}, a.all plainC = true → b.all plainC = true → a ++ 39 :: r = b ++ 39 :: s → a = b ∧ r = s
  | [], [], r, s, _, _, h => ⟨rfl, by simpa using h⟩
  | [], c :: b, r, s, _, hb, h => by
    simp only [List.nil_append, List.cons_append, List.cons.injEq] at h
    rw [List.all_cons, ← h.1] at hb
    cases hb
  | c :: a, [], r, s, ha, _, h => by
    simp only [List.nil_append, List.cons_append, List.cons.injEq] at h
    rw [List.all_cons, h.1] at ha
    cases ha
  | c :: a, d :: b, r, s, ha, hb, h => by
    simp only [List.cons_append, List.cons.injEq] at h
    rw [List.all_cons, Bool.and_eq_true] at ha hb
    obtain ⟨h1, h2⟩ := str_split ha.2 hb.2 h.2
    exact ⟨by rw [h.1, h1], h2⟩
/-- the first sign tells the kind -/
def kindC : D → Nat
  | .non => 0 | .bl true => 1 | .bl false => 2 | .int _ => 3 | .str _ => 4 | .tup _ => 5 | .lst _ => 6 | .dct _ => 7 | _ => 8
def kindN (c : Nat) : Nat := if c = 78 then 0 else if c = 84 then 1 else if c = 70 then 2 else if c = 39 then 4 else if c = 40 then 5 else if c = 91 then 6 else if c = 123 then 7 else 3
theorem intC_cons (i : Int) : ∃ c r, intC i = c :: r ∧ numC c = true := by
  have h := intC_num i
  cases e : intC i with
  | nil =>
    exfalso
    unfold intC at e
    cases i with
    | ofNat n =>
      have : (toString (Int.ofNat n)) = Nat.repr n := rfl
      rw [this] at e
      simp [Nat.repr] at e
    | negSucc n =>
      have e2 : (toString (Int.negSucc n)) = "-" ++ toString (n + 1) := rfl
      rw [e2] at e
      simp at e
  | cons c r => exact ⟨c, r, rfl, by rw [e, List.all_cons, Bool.and_eq_true] at h; exact h.1⟩
theorem num_kind {c : Nat} (h : numC c = true) : kindN c = 3 := by
  simp only [numC, Bool.or_eq_true, decide_eq_true_eq, beq_iff_eq] at h
  unfold kindN
  repeat (first | rw [if_neg (by omega)] | rfl)
theorem sh_kind : ∀ d, wfD d = true → ∃ c r, sh d = c :: r ∧ kindN c = kindC d
  | .non, _ => ⟨_, _, rfl, rfl⟩
  | .bl true, _ => ⟨_, _, rfl, rfl⟩
  | .bl false, _ => ⟨_, _, rfl, rfl⟩
  | .int i, _ => by
    obtain ⟨c, r, h1, h2⟩ := intC_cons i
    exact ⟨c, r, by simp only [sh]; exact h1, num_kind h2⟩
  | .str s, _ => ⟨_, _, by simp only [sh]; rfl, rfl⟩
  | .tup s, _ => ⟨_, _, by simp only [sh]; rfl, rfl⟩
  | .lst s, _ => ⟨_, _, by simp only [sh]; rfl, rfl⟩
  | .dct s, _ => ⟨_, _, by simp only [sh]; rfl, rfl⟩
  | .obj _, h => by simp [wfD] at h
  | .ins _ _, h => by simp [wfD] at h
  | .exc _ _, h => by simp [wfD] at h
  | .fn _, h => by simp [wfD] at h
theorem sh_same_kind {x y : D} {r s : List Nat} (hx : wfD x = true) (hy : wfD y = true) (h : sh x ++ r = sh y ++ s) : kindC x = kindC y := by
  obtain ⟨c, a, h1, h2⟩ := sh_kind x hx
  obtain ⟨d, b, h3, h4⟩ := sh_kind y hy
  rw [h1, h3] at h
  simp only [List.cons_append, List.cons.injEq] at h
  rw [← h2, ← h4, h.1]
/-- behind the items -/
def tailC : List Nat → Bool
  | c :: d :: _ => c == 41 || c == 93 || (c == 44 && d == 41)
  | [c] => c == 41 || c == 93
  | [] => false
theorem tail_end {r : List Nat} (h : tailC r = true) : endC r = true := by
  match r, h with
  | [c], h => simp only [tailC, Bool.or_eq_true, beq_iff_eq] at h; simp only [endC, Bool.or_eq_true, beq_iff_eq]; omega
  | c :: d :: r, h => simp only [tailC, Bool.or_eq_true, Bool.and_eq_true, beq_iff_eq] at h; simp only [endC, Bool.or_eq_true, beq_iff_eq]; omega
theorem tail_no {r x : List Nat} (h : tailC r = true) : r ≠ 44 :: 32 :: x := fun e => by subst e; cases h
theorem shT_end {xs : List D} {r : List Nat} (h : tailC r = true) : endC (shT xs ++ r) = true := by
  cases xs with
  | nil => simp only [shT]; exact tail_end h
  | cons x xs => simp only [shT]; rfl
theorem dct_nil {k : List (D × D)} (h : wfD (.dct k) = true) : k = [] := by cases k with
  | nil => rfl
  | cons _ _ => simp [wfD] at h
mutual
theorem sh_inj : ∀ (x y : D) {r s : List Nat}, wfD x = true → wfD y = true → endC r = true → endC s = true → sh x ++ r = sh y ++ s → x = y ∧ r = s
  | .tup xs, y, r, s, hx, hy, hr, hs, h => by
    have hk := sh_same_kind hx hy h
    cases y with
    | tup ys =>
      simp only [wfD] at hx hy
      simp only [sh, List.cons_append, List.cons.injEq, true_and, List.append_assoc] at h
      have t1 : ∀ (n : Nat) (z : List Nat), tailC ((if n == 1 then [44, 41] else [41]) ++ z) = true := fun n z => by
        cases n == 1 with
        | false => cases z <;> rfl
        | true => rfl
      obtain ⟨h1, h2⟩ := shs_inj xs ys hx hy (t1 _ _) (t1 _ _) h
      subst h1
      refine ⟨rfl, ?_⟩
      exact List.append_cancel_left h2
    | bl b => cases b <;> cases hk
    | _ => cases hk
  | .lst xs, y, r, s, hx, hy, hr, hs, h => by
    have hk := sh_same_kind hx hy h
    cases y with
    | lst ys =>
      simp only [wfD] at hx hy
      simp only [sh, List.cons_append, List.cons.injEq, true_and, List.append_assoc, List.singleton_append] at h
      have t1 : ∀ (z : List Nat), tailC (93 :: z) = true := fun z => by cases z <;> rfl
      obtain ⟨h1, h2⟩ := shs_inj xs ys hx hy (t1 _) (t1 _) h
      subst h1
      simp only [List.cons.injEq, true_and] at h2
      exact ⟨rfl, h2⟩
    | bl b => cases b <;> cases hk
    | _ => cases hk
  | .non, y, r, s, hx, hy, hr, hs, h => by
    have hk := sh_same_kind hx hy h
    cases y with
    | non => exact ⟨rfl, List.append_cancel_left h⟩
    | bl b => cases b <;> cases hk
    | _ => cases hk
  | .bl a, y, r, s, hx, hy, hr, hs, h => by
    have hk := sh_same_kind hx hy h
    cases y with
    | bl b => cases a <;> cases b <;> first | (cases hk; done) | exact ⟨rfl, List.append_cancel_left h⟩
    | _ => cases a <;> cases hk
  | .int i, y, r, s, hx, hy, hr, hs, h => by
    have hk := sh_same_kind hx hy h
    cases y with
    | int j =>
      simp only [sh] at h
      obtain ⟨h1, h2⟩ := num_split (intC_num i) (intC_num j) hr hs h
      exact ⟨by rw [intC_inj h1], h2⟩
    | bl b => cases b <;> cases hk
    | _ => cases hk
  | .str a, y, r, s, hx, hy, hr, hs, h => by
    have hk := sh_same_kind hx hy h
    cases y with
    | str b =>
      simp only [sh, List.cons_append, List.cons.injEq, true_and, List.append_assoc, List.singleton_append] at h
      obtain ⟨h1, h2⟩ := str_split hx hy h
      refine ⟨?_, h2⟩
      have : a = b := by
        cases a; cases b
        simp only [Str.mk.injEq]
        exact Array.ext' h1
      rw [this]
    | bl b => cases b <;> cases hk
    | _ => cases hk
  | .dct a, y, r, s, hx, hy, hr, hs, h => by
    have hk := sh_same_kind hx hy h
    cases y with
    | dct b =>
      have ha := dct_nil hx
      have hb := dct_nil hy
      subst ha hb
      exact ⟨rfl, List.append_cancel_left h⟩
    | bl b => cases b <;> cases hk
    | _ => cases hk
  | .obj _, _, _, _, h, _, _, _, _ => by simp [wfD] at h
  | .ins _ _, _, _, _, h, _, _, _, _ => by simp [wfD] at h
  | .exc _ _, _, _, _, h, _, _, _, _ => by simp [wfD] at h
  | .fn _, _, _, _, h, _, _, _, _ => by simp [wfD] at h
theorem shs_inj : ∀ (xs ys : List D) {r s : List Nat}, wfDs xs = true → wfDs ys = true → tailC r = true → tailC s = true → shs xs ++ r = shs ys ++ s → xs = ys ∧ r = s
  | [], [], r, s, _, _, _, _, h => ⟨rfl, h⟩
  | [], y :: ys, r, s, _, hy, hr, hs, h => by
    exfalso
    simp only [wfDs, Bool.and_eq_true] at hy
    obtain ⟨c, a, h1, h2⟩ := sh_kind y hy.1
    simp only [shs, List.nil_append, h1, List.cons_append] at h
    subst h
    have := tail_end hr
    simp only [endC, Bool.or_eq_true, beq_iff_eq] at this
    have hn : kindC y = 3 := by
      rw [← h2]
      rcases this with (e | e) | e <;> subst e <;> rfl
    cases y with
    | int i =>
      simp only [sh] at h1
      obtain ⟨c', r', h3, h4⟩ := intC_cons i
      rw [h1] at h3
      simp only [List.cons.injEq] at h3
      rw [← h3.1] at h4
      rcases this with (e | e) | e <;> subst e <;> cases h4
    | bl b => cases b <;> cases hn
    | _ => cases hn
  | x :: xs, [], r, s, hy, _, hr, hs, h => by
    exfalso
    simp only [wfDs, Bool.and_eq_true] at hy
    obtain ⟨c, a, h1, h2⟩ := sh_kind x hy.1
    simp only [shs, List.nil_append, h1, List.cons_append] at h
    subst h
    have := tail_end hs
    simp only [endC, Bool.or_eq_true, beq_iff_eq] at this
    have hn : kindC x = 3 := by
      rw [← h2]
      rcases this with (e | e) | e <;> subst e <;> rfl
    cases x with
    | int i =>
      simp only [sh] at h1
      obtain ⟨c', r', h3, h4⟩ := intC_cons i
      rw [h1] at h3
      simp only [List.cons.injEq] at h3
      rw [← h3.1] at h4
      rcases this with (e | e) | e <;> subst e <;> cases h4
    | bl b => cases b <;> cases hn
    | _ => cases hn
  | x :: xs, y :: ys, r, s, hx, hy, hr, hs, h => by
    simp only [wfDs, Bool.and_eq_true] at hx hy
    simp only [shs, List.append_assoc] at h
    obtain ⟨h1, h2⟩ := sh_inj x y hx.1 hy.1 (shT_end hr) (shT_end hs) h
    obtain ⟨h3, h4⟩ := shT_inj xs ys hx.2 hy.2 hr hs h2
    exact ⟨by rw [h1, h3], h4⟩
theorem shT_inj : ∀ (xs ys : List D) {r s : List Nat}, wfDs xs = true → wfDs ys = true → tailC r = true → tailC s = true → shT xs ++ r = shT ys ++ s → xs = ys ∧ r = s
  | [], [], r, s, _, _, _, _, h => ⟨rfl, h⟩
  | [], y :: ys, r, s, _, _, hr, hs, h => by
    simp only [shT, List.nil_append, List.cons_append] at h
    exact absurd h (tail_no hr)
  | x :: xs, [], r, s, _, _, hr, hs, h => by
    simp only [shT, List.nil_append, List.cons_append] at h
    exact absurd h.symm (tail_no hs)
  | x :: xs, y :: ys, r, s, hx, hy, hr, hs, h => by
    simp only [wfDs, Bool.and_eq_true] at hx hy
    simp only [shT, List.cons_append, List.cons.injEq, true_and, List.append_assoc] at h
    obtain ⟨h1, h2⟩ := sh_inj x y hx.1 hy.1 (shT_end hr) (shT_end hs) h
    obtain ⟨h3, h4⟩ := shT_inj xs ys hx.2 hy.2 hr hs h2
    exact ⟨by rw [h1, h3], h4⟩
end
theorem sh_eq {x y : D} (hx : wfD x = true) (hy : wfD y = true) : sh x = sh y ↔ x = y :=
  ⟨fun h => (sh_inj x y (r := []) (s := []) hx hy rfl rfl (by rw [h])).1, fun h => by rw [h]⟩
theorem shown_eq {x y : D} (hx : wfD x = true) (hy : wfD y = true) : (pyT x).shown = (pyT y).shown ↔ x = y := by
  rw [← sh_eq hx hy, ← shown_codes x hx, ← shown_codes y hy]
  constructor
  · intro h; rw [h]
  · intro h
    cases e : (pyT x).shown; cases e2 : (pyT y).shown
    rw [e, e2] at h
    simp only [Str.mk.injEq]
    exact Array.ext' h
end FT
end

section
set_option Elab.async false
set_option linter.all false
set_option maxRecDepth 100000
set_option autoImplicit false
/-! FT.PLc: repr of data, sizes. -/
namespace FT
open PySem

mutual
theorem res_wf (f : Nat → D) : ∀ d, wfD d = true → resW f d = d
  | .non, _ => rfl
  | .bl _, _ => rfl
  | .int _, _ => rfl
  | .str _, _ => rfl
  | .tup xs, h => by simp only [wfD] at h; simp only [resW, ress_wf f xs h]
  | .lst xs, h => by simp only [wfD] at h; simp only [resW, ress_wf f xs h]
  | .dct k, h => by rw [dct_nil h]; simp only [resW, resWk]
  | .obj _, h => by simp [wfD] at h
  | .ins _ _, h => by simp [wfD] at h
  | .exc _ _, h => by simp [wfD] at h
  | .fn _, h => by simp [wfD] at h
theorem ress_wf (f : Nat → D) : ∀ xs, wfDs xs = true → resWs f xs = xs
  | [], _ => rfl
  | x :: xs, h => by
    simp only [wfDs, Bool.and_eq_true] at h
    simp only [resWs, res_wf f x h.1, ress_wf f xs h.2]
end
theorem resD_wf {S : Store} {d : D} (h : wfD d = true) : resD S d = d := by
  unfold resD resN
  exact res_wf _ d h
mutual
theorem isT_wf : ∀ d, wfD d = true → isT d = true
  | .non, _ => rfl
  | .bl _, _ => rfl
  | .int _, _ => rfl
  | .str _, _ => rfl
  | .tup xs, h => by simp only [wfD] at h; simp only [isT, isTs_wf xs h]
  | .lst xs, h => by simp only [wfD] at h; simp only [isT, isTs_wf xs h]
  | .dct k, h => by rw [dct_nil h]; rfl
  | .obj _, h => by simp [wfD] at h
  | .ins _ _, h => by simp [wfD] at h
  | .exc _ _, h => by simp [wfD] at h
  | .fn _, h => by simp [wfD] at h
theorem isTs_wf : ∀ xs, wfDs xs = true → isTs xs = true
  | [], _ => rfl
  | x :: xs, h => by
    simp only [wfDs, Bool.and_eq_true] at h
    simp only [isTs, isT_wf x h.1, isTs_wf xs h.2, Bool.and_self]
end
mutual
theorem show_wf : ∀ d, wfD d = true → (pyT d).showable = true
  | .non, _ => by simp only [pyT, PyData.showable]
  | .bl _, _ => by simp only [pyT, PyData.showable]
  | .int i, h => by
    simp only [wfD, decide_eq_true_eq] at h
    simp only [pyT, PyData.showable, decide_eq_true_eq]
    rcases Nat.eq_zero_or_pos i.natAbs with e | e
    · rw [e]; decide
    · have := (Nat.log2_lt (n := i.natAbs) (k := 70) (by omega)).mpr (by omega)
      omega
  | .str _, _ => by simp only [pyT, PyData.showable]
  | .tup xs, h => by simp only [wfD] at h; simp only [pyT, PyData.showable, shows_wf xs h]
  | .lst xs, h => by simp only [wfD] at h; simp only [pyT, PyData.showable, shows_wf xs h]
  | .dct k, h => by rw [dct_nil h]; simp only [pyT, pyTk, PyData.showable, PyData.showableKv]
  | .obj _, h => by simp [wfD] at h
  | .ins _ _, h => by simp [wfD] at h
  | .exc _ _, h => by simp [wfD] at h
  | .fn _, h => by simp [wfD] at h
theorem shows_wf : ∀ xs, wfDs xs = true → PyData.showableAll (pyTs xs) = true
  | [], _ => by simp only [pyTs, PyData.showableAll]
  | x :: xs, h => by
    simp only [wfDs, Bool.and_eq_true] at h
    simp only [pyTs, PyData.showableAll, show_wf x h.1, shows_wf xs h.2, Bool.and_self]
end
mutual
/-- more than the signs of repr -/
def wt : D → Nat
  | .non => 4
  | .bl _ => 5
  | .int _ => 21
  | .str s => s.cps.size + 2
  | .tup xs => wts xs + 3
  | .lst xs => wts xs + 3
  | .dct _ => 2
  | _ => 0
def wts : List D → Nat
  | [] => 0
  | d :: ds => wt d + 2 + wts ds
end
theorem intC_len {i : Int} (h : i.natAbs < 10 ^ 20) : (intC i).length ≤ 21 := by
  have nat : ∀ n : Nat, n < 10 ^ 20 → (toString n).toList.length ≤ 20 := fun n hn => by
    have : (toString n).toList = Nat.toDigits 10 n := by
      show (Nat.repr n).toList = _
      simp [Nat.repr]
    rw [this]
    exact (Nat.length_toDigits_le_iff (by decide) (by decide)).mpr hn
  cases i with
  | ofNat n =>
    have := nat n h
    show ((toString (Int.ofNat n)).toList.map Char.toNat).length ≤ 21
    rw [List.length_map]
    show (toString n).toList.length ≤ 21
    omega
  | negSucc n =>
    have := nat (n + 1) h
    show ((toString (Int.negSucc n)).toList.map Char.toNat).length ≤ 21
    rw [List.length_map, show toString (Int.negSucc n) = "-" ++ toString (n + 1) from rfl, String.toList_append, List.length_append]
    have e1 : ("-" : String).toList.length = 1 := by decide
    omega
mutual
theorem sh_len : ∀ d, wfD d = true → (sh d).length ≤ wt d
  | .non, _ => by simp [sh, wt]
  | .bl true, _ => by simp [sh, wt]
  | .bl false, _ => by simp [sh, wt]
  | .int i, h => by simp only [wfD, decide_eq_true_eq] at h; simp only [sh, wt]; exact intC_len h
  | .str s, _ => by simp [sh, wt]
  | .tup xs, h => by
    simp only [wfD] at h
    have := shs_len xs h
    simp only [sh, wt, List.length_append, List.length_cons]
    split <;> simp only [List.length_cons, List.length_nil] <;> omega
  | .lst xs, h => by
    simp only [wfD] at h
    have := shs_len xs h
    simp only [sh, wt, List.length_append, List.length_cons, List.length_nil]
    omega
  | .dct k, h => by simp [sh, wt]
  | .obj _, h => by simp [wfD] at h
  | .ins _ _, h => by simp [wfD] at h
  | .exc _ _, h => by simp [wfD] at h
  | .fn _, h => by simp [wfD] at h
theorem shs_len : ∀ xs, wfDs xs = true → (shs xs).length ≤ wts xs
  | [], _ => by simp [shs, wts]
  | x :: xs, h => by
    simp only [wfDs, Bool.and_eq_true] at h
    have := sh_len x h.1
    have := shT_len xs h.2
    simp only [shs, wts, List.length_append]
    omega
theorem shT_len : ∀ xs, wfDs xs = true → (shT xs).length ≤ wts xs
  | [], _ => by simp [shT, wts]
  | x :: xs, h => by
    simp only [wfDs, Bool.and_eq_true] at h
    have := sh_len x h.1
    have := shT_len xs h.2
    simp only [shT, wts, List.length_append, List.length_cons]
    omega
end
/-- data that repr takes -/
structure Fine (d : D) : Prop where
  wf : wfD d = true
  nb : (hasD d && hasL d) = false
  dp : depT d ≤ 60
  wt : wt d ≤ 1000000
def reprS (d : D) : Str := (pyT d).shown
theorem reprS_codes {d : D} (h : wfD d = true) : (reprS d).cps.toList = sh d := shown_codes d h
theorem reprS_eq {x y : D} (hx : wfD x = true) (hy : wfD y = true) : reprS x = reprS y ↔ x = y := shown_eq hx hy
theorem reprS_len {d : D} (h : Fine d) : (reprS d).length ≤ 1000000 := by
  have h1 := reprS_codes h.wf
  have h2 := sh_len d h.wf
  have h3 : (reprS d).length = (reprS d).cps.toList.length := by simp [Str.length]
  rw [h3, h1]
  exact Nat.le_trans h2 h.wt
theorem sz_of {n : Nat} (h : n ≤ 1000000) : sz n = true := by
  unfold sz
  rw [decide_eq_true_eq, sizeLine_eq]
  omega
theorem repr_fine {S : Store} {d : D} (h : Fine d) : reprD S d = some (reprS d) := by
  unfold reprD
  rw [resD_wf h.wf]
  have h1 := isT_wf d h.wf
  have h2 := h.nb
  have h3 := show_wf d h.wf
  have h4 := sz_of (reprS_len h)
  have h5 : depT d ≤ 64 := by have := h.dp; omega
  unfold reprS at h4 ⊢
  simp only [h1, h2, h3, h4, h5, Bool.not_false, Bool.and_self, decide_true, if_true]
mutual
theorem sh_cps : ∀ d, wfD d = true → (sh d).all (fun c => decide (c < 1114112)) = true
  | .non, _ => by decide
  | .bl true, _ => by decide
  | .bl false, _ => by decide
  | .int i, _ => by
    simp only [sh]
    rw [List.all_eq_true]
    intro c hc
    have := List.all_eq_true.mp (intC_num i) c hc
    simp only [numC, Bool.or_eq_true, decide_eq_true_eq, beq_iff_eq] at this
    simp only [decide_eq_true_eq]; omega
  | .str s, h => by
    simp only [wfD, plainS] at h
    simp only [sh, List.cons_append, List.all_cons, List.all_append, List.all_nil, Bool.and_true, Bool.and_eq_true]
    refine ⟨by decide, ?_, by decide⟩
    rw [List.all_eq_true]
    intro c hc
    have := plainC_of (List.all_eq_true.mp h c hc)
    simp only [decide_eq_true_eq]; omega
  | .tup xs, h => by
    simp only [wfD] at h
    simp only [sh, List.cons_append, List.all_cons, List.all_append, shs_cps xs h, Bool.true_and, Bool.and_eq_true]
    exact ⟨by decide, by split <;> decide⟩
  | .lst xs, h => by
    simp only [wfD] at h
    simp only [sh, List.cons_append, List.all_cons, List.all_append, shs_cps xs h, Bool.true_and, Bool.and_eq_true]
    exact ⟨by decide, by decide⟩
  | .dct k, h => by simp only [sh]; decide
  | .obj _, h => by simp [wfD] at h
  | .ins _ _, h => by simp [wfD] at h
  | .exc _ _, h => by simp [wfD] at h
  | .fn _, h => by simp [wfD] at h
theorem shs_cps : ∀ xs, wfDs xs = true → (shs xs).all (fun c => decide (c < 1114112)) = true
  | [], _ => rfl
  | x :: xs, h => by
    simp only [wfDs, Bool.and_eq_true] at h
    simp only [shs, List.all_append, sh_cps x h.1, shT_cps xs h.2, Bool.and_self]
theorem shT_cps : ∀ xs, wfDs xs = true → (shT xs).all (fun c => decide (c < 1114112)) = true
  | [], _ => rfl
  | x :: xs, h => by
    simp only [wfDs, Bool.and_eq_true] at h
    simp only [shT, List.all_cons, List.all_append, sh_cps x h.1, shT_cps xs h.2, Bool.and_self, Bool.and_true]
    decide
end
theorem strOk_list {s : Str} : PyData.strOk s = s.cps.toList.all (fun c => decide (c < 1114112)) := by
  unfold PyData.strOk
  rw [← Array.all_toList]
theorem strOk_repr {d : D} (h : wfD d = true) : PyData.strOk (reprS d) = true := by
  rw [strOk_list, reprS_codes h]
  exact sh_cps d h
theorem strOk_plain {s : Str} (h : plainS s = true) : PyData.strOk s = true := by
  rw [strOk_list, List.all_eq_true]
  intro c hc
  have := plainC_of (List.all_eq_true.mp h c hc)
  simp only [decide_eq_true_eq]; omega
mutual
theorem okT_wf : ∀ d, wfD d = true → hasD d = false → okT d = true
  | .non, _, _ => rfl
  | .bl _, _, _ => rfl
  | .int _, _, _ => rfl
  | .str s, h, _ => by simp only [wfD] at h; simp only [okT, strOk_plain h]
  | .tup xs, h, h2 => by simp only [wfD] at h; simp only [hasD] at h2; simp only [okT, okTs_wf xs h h2]
  | .lst xs, h, h2 => by simp only [wfD] at h; simp only [hasD] at h2; simp only [okT, okTs_wf xs h h2]
  | .dct k, h, h2 => by simp [hasD] at h2
  | .obj _, h, _ => by simp [wfD] at h
  | .ins _ _, h, _ => by simp [wfD] at h
  | .exc _ _, h, _ => by simp [wfD] at h
  | .fn _, h, _ => by simp [wfD] at h
theorem okTs_wf : ∀ xs, wfDs xs = true → hasDs xs = false → okTs xs = true
  | [], _, _ => rfl
  | x :: xs, h, h2 => by
    simp only [wfDs, Bool.and_eq_true] at h
    simp only [hasDs, Bool.or_eq_false_iff] at h2
    simp only [okTs, okT_wf x h.1 h2.1, okTs_wf xs h.2 h2.2, Bool.and_self]
end
theorem fit_wf {d : D} (h : wfD d = true) (h2 : hasD d = false) (h3 : depT d ≤ 64) : fitT d = true := by
  simp only [fitT, okT_wf d h h2, h3, decide_true, Bool.and_self]
mutual
theorem eqT_refl : ∀ d, wfD d = true → hasD d = false → eqT d d = true
  | .non, _, _ => rfl
  | .bl _, _, _ => by simp [eqT]
  | .int _, _, _ => by simp [eqT]
  | .str s, h, _ => by simp [eqT]
  | .tup xs, h, h2 => by simp only [wfD] at h; simp only [hasD] at h2; simp only [eqT, eqTs_refl xs h h2]
  | .lst xs, h, h2 => by simp only [wfD] at h; simp only [hasD] at h2; simp only [eqT, eqTs_refl xs h h2]
  | .dct k, h, h2 => by simp [hasD] at h2
  | .obj _, h, _ => by simp [wfD] at h
  | .ins _ _, h, _ => by simp [wfD] at h
  | .exc _ _, h, _ => by simp [wfD] at h
  | .fn _, h, _ => by simp [wfD] at h
theorem eqTs_refl : ∀ xs, wfDs xs = true → hasDs xs = false → eqTs xs xs = true
  | [], _, _ => rfl
  | x :: xs, h, h2 => by
    simp only [wfDs, Bool.and_eq_true] at h
    simp only [hasDs, Bool.or_eq_false_iff] at h2
    simp only [eqTs, eqT_refl x h.1 h2.1, eqTs_refl xs h.2 h2.2, Bool.and_self]
end
end FT
end

section
set_option Elab.async false
set_option linter.all false
set_option maxRecDepth 100000
set_option autoImplicit false
/-! FT.PLd: words for running defs. -/
namespace FT
open PySem

theorem rget0 {d : D} {ρ : Env} : rget (some d :: ρ) 0 = some d := rfl
theorem rget0n {ρ : Env} : rget (none :: ρ) 0 = none := rfl
theorem rgetS {x : Option D} {ρ : Env} {n : Nat} : rget (x :: ρ) (n + 1) = rget ρ n := rfl
theorem cutR_same {k : Bool} {d : D} {S : Store} : cutR k S.length d S = .ok d S := by
  unfold cutR
  simp
theorem backR_rt {k : Bool} {d : D} {ρ : Env} {S : Store} : backR k S.length (.ok (.rt d, ρ) S) = .ok d S := by simp only [backR, cutR_same]
theorem backR_nx {k : Bool} {ρ : Env} {S : Store} : backR k S.length (.ok (.nx, ρ) S) = .ok .non S := by simp only [backR, cutR_same]
theorem backR_ex {k : Bool} {d : D} {S : Store} : backR k S.length (.ex d S : RF) = .ex d S := by simp only [backR, cutR_same]
theorem truD_bl {S : Store} {b : Bool} : truD S (.bl b) = some b := rfl
theorem testR_ok {d : D} {S : Store} : testR (.ok d S) = R.ofO (truD S d) S := rfl
theorem compL_map {f : D → Env → Store → R (Option D)} {g : D → D} {ρ : Env} {S : Store} : ∀ {ds : List D}, (∀ d ∈ ds, f d ρ S = .ok (some (g d)) S) → compL f ds ρ S = .ok (ds.map g) S
  | [], _ => rfl
  | d :: ds, h => by
    simp only [compL, h d (List.mem_cons_self ..), noxR, R.bind_ok, compL_map fun x hx => h x (List.mem_cons_of_mem _ hx), List.map_cons]
theorem compL_filter {f : D → Env → Store → R (Option D)} {g : D → Option D} {ρ : Env} {S : Store} : ∀ {ds : List D}, (∀ d ∈ ds, f d ρ S = .ok (g d) S) → compL f ds ρ S = .ok (ds.filterMap g) S
  | [], _ => rfl
  | d :: ds, h => by
    simp only [compL, h d (List.mem_cons_self ..), noxR, R.bind_ok, compL_filter fun x hx => h x (List.mem_cons_of_mem _ hx), List.filterMap_cons]
    cases g d <;> rfl
theorem boolsOf_map {α : Type} {p : α → Bool} : ∀ {xs : List α}, boolsOf (xs.map fun x => .bl (p x)) = some (xs.map p)
  | [] => rfl
  | x :: xs => by simp only [List.map_cons, boolsOf, boolsOf_map, Option.map_some]
theorem strsOf_map : ∀ {xs : List Str}, strsOf (xs.map .str) = some xs
  | [] => rfl
  | x :: xs => by simp only [List.map_cons, strsOf, strsOf_map, Option.map_some]
theorem all_map_id {α : Type} {p : α → Bool} {xs : List α} : (xs.map p).all id = xs.all p := by
  rw [List.all_map]; rfl
theorem any_map_id {α : Type} {p : α → Bool} {xs : List α} : (xs.map p).any id = xs.any p := by
  rw [List.any_map]; rfl
theorem sz_of_lt {n : Nat} (h : n ≤ 1000000) : sz n = true := sz_of h
theorem cxN_glob {T : Tab} {n : Nat} {x : Str} : (cxN T n).glob x = T.glob x := rfl
theorem cxN_exc {T : Tab} {n : Nat} {x : Str} : (cxN T n).exc x = T.exc x := rfl
theorem call_def {T : Tab} {n : Nat} {f : Str} {d : Def} (h : T.defs f = some d) (hl : d.lam = false) : (cxN T (n + 1)).call f = some (Run T (n + 3) f) := by
  show callN T (n + 3) f = _
  rw [callN_def h hl]
  congr 1
  funext ds S
  rw [Run_def h hl]
section
variable {S : Store} {d e : D} {live : Bool}
theorem callB_len : callBD .len live [d] S = R.ofO ((lenD S d).map .int) S := rfl
theorem callB_repr : callBD .repr live [d] S = R.ofO ((reprD S d).map .str) S := rfl
theorem callB_all : callBD .all live [d] S = R.ofO (((lstD S d).bind boolsOf).map fun bs => .bl (bs.all id)) S := rfl
theorem callB_any : callBD .any live [d] S = R.ofO (((lstD S d).bind boolsOf).map fun bs => .bl (bs.any id)) S := rfl
theorem callB_int : callBD .int live [d] S = R.ofO (intD d) S := rfl
theorem callB_tuple : callBD .tuple live [d] S = R.ofO (tupleD S d) S := rfl
theorem callB_list : callBD .list live [d] S = match seqD S d with
    | some xs => newL live xs S
    | none => .bad := rfl
theorem callB_isi {t : Nat} : callBD (.isi t) live [d] S = R.ofO ((isiD S t d).map .bl) S := rfl
theorem callB_min2 : callBD .min2 live [d, e] S = R.ofO (min2D d e) S := rfl
theorem isi_non {t : Nat} : isiD S t .non = some false := rfl
theorem isi_bl {t : Nat} {b : Bool} : isiD S t (.bl b) = some (t == 0 || t == 1) := rfl
theorem isi_int {t : Nat} {b : Int} : isiD S t (.int b) = some (t == 0) := rfl
theorem isi_str {t : Nat} {b : Str} : isiD S t (.str b) = some (t == 2) := rfl
theorem isi_tup {t : Nat} {b : List D} : isiD S t (.tup b) = some (t == 3) := rfl
theorem isi_lst {t : Nat} {b : List D} : isiD S t (.lst b) = some (t == 4) := rfl
theorem isi_dct {t : Nat} {b : List (D × D)} : isiD S t (.dct b) = some (t == 5) := rfl
theorem len_tup {b : List D} : lenD S (.tup b) = some (b.length : Int) := rfl
theorem len_lst {b : List D} : lenD S (.lst b) = some (b.length : Int) := rfl
theorem seq_tup {b : List D} : seqD S (.tup b) = some b := rfl
theorem seq_lst {b : List D} : seqD S (.lst b) = some b := rfl
theorem lst_lst {b : List D} : lstD S (.lst b) = some b := rfl
theorem tru_non : truD S .non = some false := rfl
theorem tru_bool {b : Bool} : truD S (.bl b) = some b := rfl
theorem tru_tup {b : List D} : truD S (.tup b) = some (!b.isEmpty) := rfl
theorem tru_lst {b : List D} : truD S (.lst b) = some (!b.isEmpty) := rfl
theorem newL_fro {xs : List D} (h : xs.length ≤ 1000000) : newL false xs S = .ok (.lst xs) S := by
  unfold newL
  rw [sz_of h]; rfl
theorem liven_false : liven false d S = .ok d S := rfl
theorem cmp_eqI {a b : Int} : cmpD .Eq (.int a) (.int b) S = some (a == b) := rfl
theorem cmp_neI {a b : Int} : cmpD .NotEq (.int a) (.int b) S = some (!(a == b)) := rfl
theorem cmp_eqS {a b : Str} : cmpD .Eq (.str a) (.str b) S = some (a == b) := rfl
theorem cmp_neS {a b : Str} : cmpD .NotEq (.str a) (.str b) S = some (!(a == b)) := rfl
theorem cmp_lt {a b : Int} : cmpD .Lt (.int a) (.int b) S = some (decide (a < b)) := rfl
theorem cmp_le {a b : Int} : cmpD .LtE (.int a) (.int b) S = some (decide (a ≤ b)) := rfl
theorem cmp_gt {a b : Int} : cmpD .Gt (.int a) (.int b) S = some (decide (b < a)) := rfl
theorem cmp_ge {a b : Int} : cmpD .GtE (.int a) (.int b) S = some (decide (b ≤ a)) := rfl
theorem cmp_in_tup {s : Str} {ys : List D} : cmpD .In (.str s) (.tup ys) S = inL S (.str s) ys := rfl
theorem cmp_in_lst {s : Str} {ys : List D} : cmpD .In (.str s) (.lst ys) S = inL S (.str s) ys := rfl
theorem cmp_nin_tup {s : Str} {ys : List D} : cmpD .NotIn (.str s) (.tup ys) S = (inL S (.str s) ys).map not := rfl
theorem cmp_nin_lst {s : Str} {ys : List D} : cmpD .NotIn (.str s) (.lst ys) S = (inL S (.str s) ys).map not := rfl
theorem bin_add {a b : Int} : binD .Add (.int a) (.int b) S = some (.int (a + b)) := rfl
theorem bin_sub {a b : Int} : binD .Sub (.int a) (.int b) S = some (.int (a - b)) := rfl
theorem bin_mul {a b : Int} : binD .Mult (.int a) (.int b) S = if mulOk a b then some (.int (a * b)) else none := rfl
theorem bin_mod {a b : Int} : binD .Mod (.int a) (.int b) S = if 0 < b then some (.int (a % b)) else none := rfl
theorem bin_div {a b : Int} : binD .FloorDiv (.int a) (.int b) S = if 0 < b ∧ b.natAbs.log2 < 9000 then some (.int (a / b)) else none := rfl
theorem bin_addS {a b : Str} : binD .Add (.str a) (.str b) S = if sz (a.length + b.length) then some (.str (a ++ b)) else none := rfl
theorem bin_addT {a b : List D} : binD .Add (.tup a) (.tup b) S = if sz (a.length + b.length) then some (.tup (a ++ b)) else none := rfl
theorem bin_addL {a b : List D} : binD .Add (.lst a) (.lst b) S = if sz (a.length + b.length) then some (.lst (a ++ b)) else none := rfl
theorem meth_count {o x : D} : methD .count o [x] S = R.ofO (((lstD S o).bind (countL S x)).map fun n => .int (n : Nat)) S := rfl
theorem meth_index {o x : D} : methD .index o [x] S = R.ofO (((lstD S o).bind (indexL x)).map fun n => .int (n : Nat)) S := rfl
theorem meth_append {o x : D} : methD .append o [x] S = appendD o x S := rfl
theorem meth_popAt {o x : D} : methD .popAt o [x] S = popAtD o x S := rfl
end
theorem sz_small {n : Nat} : sz (n % 100) = true := sz_of (by omega)
/-- in over plain texts -/
theorem in_strs {S : Store} {s : Str} {ws : List Str} (h : PyData.strOk s = true) (hw : ws.all PyData.strOk = true) : inL S (.str s) (ws.map .str) = some (ws.contains s) := by
  have fs : ∀ t : Str, PyData.strOk t = true → fitT (resD S (.str t)) = true := fun t ht => by
    show (okT (.str t) && decide (depT (.str t) ≤ 64)) = true
    simp only [okT, ht, depT, Bool.true_and]; rfl
  have hf : fitAll S (ws.map .str) = true := by
    unfold fitAll
    rw [List.all_map, List.all_eq_true]
    intro t ht
    exact fs t (List.all_eq_true.mp hw t ht)
  unfold inL
  rw [fs s h, hf]
  simp only [Bool.and_self, if_true]
  congr 1
  rw [List.any_map]
  have : ∀ l : List Str, l.any ((fun y => eqT (resD S y) (resD S (.str s))) ∘ D.str) = l.contains s := by
    intro l
    induction l with
    | nil => rfl
    | cons t l ih =>
      rw [List.any_cons, List.contains_cons, ih]
      show (t == s || _) = _
      rw [Bool.beq_comm]
  exact this ws

/-! ### logs -/
def oneOf (ws : List Str) : D → Bool
  | .str s => ws.contains s
  | _ => false
def pairOf (f s : List Str) : D → Bool
  | .tup [a, b] => oneOf f a && oneOf s b
  | _ => false
def MOVING : List Str := ["new", "going"]
def PLACES : List Str := ["going", "gone", "kept", "new"]
def WORDS : List Str := ["", "no", "yes"]
def EVENTS : List Str := ["begin", "good", "bad"]
def LEADS : List Str := ["free", "next", "stay"]
def RESULTS : List Str := ["all", "none", "some"]
def REPORTS : List Str := ["bad", "good"]
def isCell : D → Bool := pairOf PLACES WORDS
def areCells : D → Bool
  | .tup [a, b] => isCell a && isCell b
  | _ => false
def isTable : D → Bool
  | .tup [w, a, b, c] => oneOf WORDS w && (areCells a && (areCells b && areCells c))
  | _ => false
def ascD (xs : List D) : Bool := eqTs xs (sortT (dedupT xs))
def areEnds : D → Bool
  | .tup xs => xs.all (pairOf RESULTS REPORTS) && ascD xs
  | _ => false
def areSeen : D → Bool
  | .tup xs => xs.all (oneOf PLACES) && ascD xs
  | _ => false
def isBl : D → Bool
  | .bl _ => true
  | _ => false
def isLog : D → Bool
  | .tup [t, l, e, s, v] => isTable t && pairOf LEADS LEADS l && areEnds e && isBl s && areSeen v
  | _ => false
end FT
end

section
set_option Elab.async false
set_option linter.all false
set_option maxRecDepth 100000
set_option autoImplicit false
/-! FT.PLe: is_log and what it asks. -/
namespace FT
open PySem
def d_is_one_of : Def := { ps := 2, n := 2, N := ["thing", "words"], keep := false, lam := false, lm := false, body := (.cons (.ret (.and (.cons (.callB (.isi 2) false (.cons (.var 0) .nil)) (.cons (.cmp .In (.var 0) (.var 1)) .nil)))) .nil) }
def d_is_pair_of : Def := { ps := 3, n := 3, N := ["thing", "first", "second"], keep := false, lam := false, lm := false, body := (.cons (.ife (.or (.cons (.not (.callB (.isi 3) false (.cons (.var 0) .nil))) (.cons (.cmp .NotEq (.callB .len false (.cons (.var 0) .nil)) (.callB .len false (.cons (.tup (.cons (.var 1) (.cons (.var 2) .nil))) .nil))) .nil))) (.cons (.ret (.k (.bl false))) .nil) .nil) (.cons (.ret (.and (.cons (.call "is_one_of" (.cons (.sub (.var 0) (.k (.int 0))) (.cons (.var 1) .nil))) (.cons (.call "is_one_of" (.cons (.sub (.var 0) (.k (.int 1))) (.cons (.var 2) .nil))) .nil)))) .nil)) }
def d_is_cell : Def := { ps := 1, n := 1, N := ["thing"], keep := false, lam := false, lm := false, body := (.cons (.ret (.call "is_pair_of" (.cons (.var 0) (.cons (.glob "PLACES") (.cons (.glob "WORDS") .nil))))) .nil) }
def d_are_cells : Def := { ps := 1, n := 2, N := ["thing", "cell"], keep := false, lam := false, lm := false, body := (.cons (.ret (.and (.cons (.callB (.isi 3) false (.cons (.var 0) .nil)) (.cons (.cmp .Eq (.callB .len false (.cons (.var 0) .nil)) (.callB .len false (.cons (.glob "MOVING") .nil))) (.cons (.callB .all false (.cons (.comp false (.call "is_cell" (.cons (.var 1) .nil)) [1] true (.seq (.var 0)) .nil [1]) .nil)) .nil))))) .nil) }
def d_is_table : Def := { ps := 1, n := 2, N := ["thing", "cells"], keep := false, lam := false, lm := false, body := (.cons (.ife (.or (.cons (.not (.callB (.isi 3) false (.cons (.var 0) .nil))) (.cons (.cmp .NotEq (.callB .len false (.cons (.var 0) .nil)) (.bin false .Add (.k (.int 1)) (.callB .len false (.cons (.glob "EVENTS") .nil)))) .nil))) (.cons (.ret (.k (.bl false))) .nil) .nil) (.cons (.ret (.and (.cons (.call "is_one_of" (.cons (.sub (.var 0) (.k (.int 0))) (.cons (.glob "WORDS") .nil))) (.cons (.callB .all false (.cons (.comp false (.call "are_cells" (.cons (.var 1) .nil)) [1] true (.seq (.slice false (.var 0) (.som (.k (.int 1))) .non)) .nil [1]) .nil)) .nil)))) .nil)) }
def d_are_ascending : Def := { ps := 1, n := 1, N := ["thing"], keep := false, lam := false, lm := false, body := (.cons (.ret (.cmp .Eq (.callB .list false (.cons (.var 0) .nil)) (.callB .sortedSet false (.cons (.var 0) .nil)))) .nil) }
def d_are_ends : Def := { ps := 1, n := 2, N := ["thing", "one"], keep := false, lam := false, lm := false, body := (.cons (.ife (.or (.cons (.not (.callB (.isi 3) false (.cons (.var 0) .nil))) (.cons (.not (.callB .all false (.cons (.comp false (.call "is_pair_of" (.cons (.var 1) (.cons (.glob "RESULTS") (.cons (.glob "REPORTS") .nil)))) [1] true (.seq (.var 0)) .nil [1]) .nil))) .nil))) (.cons (.ret (.k (.bl false))) .nil) .nil) (.cons (.ret (.call "are_ascending" (.cons (.var 0) .nil))) .nil)) }
def d_are_seen : Def := { ps := 1, n := 2, N := ["thing", "one"], keep := false, lam := false, lm := false, body := (.cons (.ret (.and (.cons (.callB (.isi 3) false (.cons (.var 0) .nil)) (.cons (.callB .all false (.cons (.comp false (.call "is_one_of" (.cons (.var 1) (.cons (.glob "PLACES") .nil))) [1] true (.seq (.var 0)) .nil [1]) .nil)) (.cons (.call "are_ascending" (.cons (.var 0) .nil)) .nil))))) .nil) }
def d_is_log : Def := { ps := 1, n := 1, N := ["thing"], keep := false, lam := false, lm := false, body := (.cons (.ife (.or (.cons (.not (.callB (.isi 3) false (.cons (.var 0) .nil))) (.cons (.cmp .NotEq (.callB .len false (.cons (.var 0) .nil)) (.callB .len false (.cons (.tup (.cons (.k (.str "table")) (.cons (.k (.str "lead")) (.cons (.k (.str "ends")) (.cons (.k (.str "stops")) (.cons (.k (.str "seen")) .nil)))))) .nil))) .nil))) (.cons (.ret (.k (.bl false))) .nil) .nil) (.cons (.ife (.or (.cons (.not (.call "is_table" (.cons (.sub (.var 0) (.k (.int 0))) .nil))) (.cons (.not (.call "is_pair_of" (.cons (.sub (.var 0) (.k (.int 1))) (.cons (.glob "LEADS") (.cons (.glob "LEADS") .nil))))) (.cons (.not (.call "are_ends" (.cons (.sub (.var 0) (.k (.int 2))) .nil))) .nil)))) (.cons (.ret (.k (.bl false))) .nil) .nil) (.cons (.ret (.and (.cons (.callB (.isi 1) false (.cons (.sub (.var 0) (.k (.int 3))) .nil)) (.cons (.call "are_seen" (.cons (.sub (.var 0) (.k (.int 4))) .nil)) .nil)))) .nil))) }
/-- tuples are short -/
def shortD : D → Bool
  | .tup xs => decide (xs.length < 64)
  | _ => true

theorem beq_len {α : Type} {xs : List α} {k : Nat} : ((xs.length : Int) == (k : Int)) = (xs.length == k) := by
  rw [Bool.eq_iff_iff, beq_iff_eq, beq_iff_eq]; omega
theorem eqD_int {S : Store} {a b : Int} : eqD S (.int a) (.int b) = some (a == b) := rfl
theorem len_wts : ∀ xs : List D, xs.length ≤ wts xs
  | [] => Nat.zero_le _
  | x :: xs => by
    have := len_wts xs
    simp only [wts, List.length_cons]; omega
theorem wfDs_all : ∀ xs : List D, wfDs xs = xs.all wfD
  | [] => rfl
  | x :: xs => by simp only [wfDs, List.all_cons, wfDs_all xs]
theorem okTs_all : ∀ xs : List D, okTs xs = xs.all okT
  | [] => rfl
  | x :: xs => by simp only [okTs, List.all_cons, okTs_all xs]
theorem depTs_le {k : Nat} : ∀ {xs : List D}, (∀ x ∈ xs, depT x ≤ k) → depTs xs ≤ k
  | [], _ => Nat.zero_le _
  | x :: xs, h => by
    have h1 := h x (List.mem_cons_self ..)
    have h2 := depTs_le fun y hy => h y (List.mem_cons_of_mem x hy)
    simp only [depTs]; omega
theorem mem_insT {x y : D} : ∀ {xs : List D}, y ∈ insT x xs ↔ y = x ∨ y ∈ xs
  | [] => by simp [insT]
  | z :: xs => by
    unfold insT
    split
    · rw [List.mem_cons, mem_insT, List.mem_cons]
      constructor
      · rintro (h | h | h)
        · exact .inr (.inl h)
        · exact .inl h
        · exact .inr (.inr h)
      · rintro (h | h | h)
        · exact .inr (.inl h)
        · exact .inl h
        · exact .inr (.inr h)
    · simp
theorem mem_sortT {y : D} : ∀ {xs : List D}, y ∈ sortT xs ↔ y ∈ xs
  | [] => by simp [sortT]
  | x :: xs => by unfold sortT; rw [mem_insT, mem_sortT, List.mem_cons]
theorem mem_dedupT {y : D} : ∀ {xs : List D}, y ∈ dedupT xs → y ∈ xs
  | [], h => h
  | x :: xs, h => by
    unfold dedupT at h
    split at h
    · exact List.mem_cons_of_mem _ (mem_dedupT h)
    · rcases List.mem_cons.mp h with h | h
      · rw [h]; exact List.mem_cons_self ..
      · exact List.mem_cons_of_mem _ (mem_dedupT h)
theorem length_insT {x : D} : ∀ {xs : List D}, (insT x xs).length = xs.length + 1
  | [] => rfl
  | z :: xs => by
    unfold insT
    split
    · rw [List.length_cons, length_insT, List.length_cons]
    · rfl
theorem length_sortT : ∀ {xs : List D}, (sortT xs).length = xs.length
  | [] => rfl
  | x :: xs => by unfold sortT; rw [length_insT, length_sortT, List.length_cons]
theorem length_dedupT : ∀ {xs : List D}, (dedupT xs).length ≤ xs.length
  | [] => Nat.le_refl _
  | x :: xs => by
    unfold dedupT
    have := length_dedupT (xs := xs)
    split <;> simp only [List.length_cons] <;> omega
theorem resD_okT {S : Store} {d : D} (h : wfD d = true) : resD S d = d := resD_wf h
theorem eq_lst {S : Store} {xs ys : List D} (hx : wfDs xs = true) (hy : wfDs ys = true) (fx : ∀ x ∈ xs, fitT x = true ∧ depT x ≤ 60) (fy : ∀ x ∈ ys, fitT x = true ∧ depT x ≤ 60) : cmpD .Eq (.lst xs) (.lst ys) S = some (eqTs xs ys) := by
  have fit : ∀ zs : List D, (∀ x ∈ zs, fitT x = true ∧ depT x ≤ 60) → fitT (.lst zs) = true := fun zs h => by
    simp only [fitT, okT, okTs_all, depT, Bool.and_eq_true, decide_eq_true_eq, List.all_eq_true]
    refine ⟨fun x hx => ?_, ?_⟩
    · have := (h x hx).1
      simp only [fitT, Bool.and_eq_true] at this
      exact this.1
    · have := depTs_le (k := 60) fun x hx => (h x hx).2
      exact decide_eq_true (by omega)
  have h1 : wfD (.lst xs) = true := by simp only [wfD, hx]
  have h2 : wfD (.lst ys) = true := by simp only [wfD, hy]
  show (if fitT (resD S (.lst xs)) && fitT (resD S (.lst ys)) then some (eqT (resD S (.lst xs)) (resD S (.lst ys))) else none) = _
  rw [resD_wf h1, resD_wf h2, fit xs fx, fit ys fy]
  simp only [Bool.and_self, if_true, eqT]

section
variable {T : Tab} {n : Nat} {S : Store}
structure LogT (T : Tab) : Prop where
  is_one_of : T.defs "is_one_of" = some d_is_one_of
  is_pair_of : T.defs "is_pair_of" = some d_is_pair_of
  are_cells : T.defs "are_cells" = some d_are_cells
  is_table : T.defs "is_table" = some d_is_table
  are_ascending : T.defs "are_ascending" = some d_are_ascending
  are_ends : T.defs "are_ends" = some d_are_ends
  gM : T.glob "MOVING" = some (.tup (MOVING.map .str))
  gP : T.glob "PLACES" = some (.tup (PLACES.map .str))
  gW : T.glob "WORDS" = some (.tup (WORDS.map .str))
  gE : T.glob "EVENTS" = some (.tup (EVENTS.map .str))
  gL : T.glob "LEADS" = some (.tup (LEADS.map .str))
  gR : T.glob "RESULTS" = some (.tup (RESULTS.map .str))
  gQ : T.glob "REPORTS" = some (.tup (REPORTS.map .str))
theorem run_is_one_of (h : T.defs "is_one_of" = some d_is_one_of) {d : D} {ws : List Str} (hd : wfD d = true) (hw : ws.all PyData.strOk = true) : Run T (n + 3) "is_one_of" [d, .tup (ws.map .str)] S = .ok (.bl (oneOf ws d)) S := by
  rw [Run_def h rfl]
  cases d with
  | str s =>
    simp only [runD, execs, exec, ev, evs, evAnd, evOr, evIfs, evO, evI, testR, R.bind_ok, R.bind_ex, R.ofO_some, R.ofO_none, rget0, rgetS, asgT, asgTs, lenTs, truD_bl, tru_non, tru_tup, tru_lst, backR_rt, backR_nx, backR_ex, List.length_cons, List.length_nil, List.map_cons, List.map_nil, List.replicate_zero, List.replicate_succ, List.cons_append, List.nil_append, List.append_nil, List.set_cons_zero, List.set_cons_succ, if_true, if_false, Bool.false_eq_true, Bool.true_eq_false, Nat.reduceSub, Nat.reduceAdd, Nat.zero_add, Nat.sub_self, cxN_glob, cxN_exc, Option.map_some, Option.bind_some, K.d, Bool.not_true, Bool.not_false, Option.some.injEq, beq_self_eq_true, Nat.reduceEqDiff, eq_self, Nat.reduceBEq, Bool.or_false, Bool.false_or, Bool.or_true, Bool.true_or, Bool.or_self, Bool.and_self, Bool.and_true, Bool.true_and, Bool.and_false, Bool.false_and, callB_len, callB_repr, callB_all, callB_any, callB_int, callB_tuple, callB_list, callB_isi, callB_min2, isi_non, isi_bl, isi_int, isi_str, isi_tup, isi_lst, isi_dct, len_tup, len_lst, seq_tup, seq_lst, lst_lst, tru_bool, newL_fro, liven_false, cmp_eqI, cmp_neI, cmp_eqS, cmp_neS, cmp_lt, cmp_le, cmp_gt, cmp_ge, cmp_in_tup, cmp_in_lst, cmp_nin_tup, cmp_nin_lst, bin_add, bin_sub, bin_mul, bin_mod, bin_div, bin_addS, bin_addT, bin_addL, meth_count, meth_index, meth_append, meth_popAt, sz_of, Nat.reduceLeDiff, Int.reduceEq, Int.reduceBEq, Int.cast_ofNat_Int, Int.reduceAdd, Int.reduceLT, d_is_one_of, cmpD, in_strs (strOk_plain hd) hw, oneOf]
  | _ => first | (simp [wfD] at hd; done) | simp only [runD, execs, exec, ev, evs, evAnd, evOr, evIfs, evO, evI, testR, R.bind_ok, R.bind_ex, R.ofO_some, R.ofO_none, rget0, rgetS, asgT, asgTs, lenTs, truD_bl, tru_non, tru_tup, tru_lst, backR_rt, backR_nx, backR_ex, List.length_cons, List.length_nil, List.map_cons, List.map_nil, List.replicate_zero, List.replicate_succ, List.cons_append, List.nil_append, List.append_nil, List.set_cons_zero, List.set_cons_succ, if_true, if_false, Bool.false_eq_true, Bool.true_eq_false, Nat.reduceSub, Nat.reduceAdd, Nat.zero_add, Nat.sub_self, cxN_glob, cxN_exc, Option.map_some, Option.bind_some, K.d, Bool.not_true, Bool.not_false, Option.some.injEq, beq_self_eq_true, Nat.reduceEqDiff, eq_self, Nat.reduceBEq, Bool.or_false, Bool.false_or, Bool.or_true, Bool.true_or, Bool.or_self, Bool.and_self, Bool.and_true, Bool.true_and, Bool.and_false, Bool.false_and, callB_len, callB_repr, callB_all, callB_any, callB_int, callB_tuple, callB_list, callB_isi, callB_min2, isi_non, isi_bl, isi_int, isi_str, isi_tup, isi_lst, isi_dct, len_tup, len_lst, seq_tup, seq_lst, lst_lst, tru_bool, newL_fro, liven_false, cmp_eqI, cmp_neI, cmp_eqS, cmp_neS, cmp_lt, cmp_le, cmp_gt, cmp_ge, cmp_in_tup, cmp_in_lst, cmp_nin_tup, cmp_nin_lst, bin_add, bin_sub, bin_mul, bin_mod, bin_div, bin_addS, bin_addT, bin_addL, meth_count, meth_index, meth_append, meth_popAt, sz_of, Nat.reduceLeDiff, Int.reduceEq, Int.reduceBEq, Int.cast_ofNat_Int, Int.reduceAdd, Int.reduceLT, d_is_one_of, oneOf]
theorem sub0 {S : Store} {a : D} {xs : List D} : subD S (.tup (a :: xs)) (.int 0) = some a := by
  show L2.atI (a :: xs) 0 = _
  unfold L2.atI L2.ixN
  rw [if_pos (by omega), if_pos (by simp only [List.length_cons]; omega)]
  rfl
theorem subN {S : Store} {xs : List D} {i : Nat} {a : D} (h : xs[i]? = some a) : subD S (.tup xs) (.int (i : Int)) = some a := by
  show L2.atI xs i = _
  have := (List.getElem?_eq_some_iff.mp h).1
  unfold L2.atI L2.ixN
  rw [if_pos (by omega), if_pos (by omega)]
  simpa using h
theorem run_is_pair_of (h : T.defs "is_one_of" = some d_is_one_of) (h2 : T.defs "is_pair_of" = some d_is_pair_of) {d : D} {f s : List Str} (hd : wfD d = true) (hf : f.all PyData.strOk = true) (hs : s.all PyData.strOk = true) :
    Run T (n + 4) "is_pair_of" [d, .tup (f.map .str), .tup (s.map .str)] S = .ok (.bl (pairOf f s d)) S := by
  rw [Run_def h2 rfl]
  cases d with
  | tup xs =>
    simp only [wfD] at hd
    match xs, hd with
    | [], hd => simp [runD, execs, exec, ev, evs, evAnd, evOr, evIfs, evO, evI, testR, R.bind_ok, R.bind_ex, R.ofO_some, R.ofO_none, rget0, rgetS, asgT, asgTs, lenTs, truD_bl, tru_non, tru_tup, tru_lst, backR_rt, backR_nx, backR_ex, List.length_cons, List.length_nil, List.map_cons, List.map_nil, List.replicate_zero, List.replicate_succ, List.cons_append, List.nil_append, List.append_nil, List.set_cons_zero, List.set_cons_succ, if_true, if_false, Bool.false_eq_true, Bool.true_eq_false, Nat.reduceSub, Nat.reduceAdd, Nat.zero_add, Nat.sub_self, cxN_glob, cxN_exc, Option.map_some, Option.bind_some, K.d, Bool.not_true, Bool.not_false, Option.some.injEq, beq_self_eq_true, Nat.reduceEqDiff, eq_self, Nat.reduceBEq, Bool.or_false, Bool.false_or, Bool.or_true, Bool.true_or, Bool.or_self, Bool.and_self, Bool.and_true, Bool.true_and, Bool.and_false, Bool.false_and, callB_len, callB_repr, callB_all, callB_any, callB_int, callB_tuple, callB_list, callB_isi, callB_min2, isi_non, isi_bl, isi_int, isi_str, isi_tup, isi_lst, isi_dct, len_tup, len_lst, seq_tup, seq_lst, lst_lst, tru_bool, newL_fro, liven_false, cmp_eqI, cmp_neI, cmp_eqS, cmp_neS, cmp_lt, cmp_le, cmp_gt, cmp_ge, cmp_in_tup, cmp_in_lst, cmp_nin_tup, cmp_nin_lst, bin_add, bin_sub, bin_mul, bin_mod, bin_div, bin_addS, bin_addT, bin_addL, meth_count, meth_index, meth_append, meth_popAt, sz_of, Nat.reduceLeDiff, Int.reduceEq, Int.reduceBEq, Int.cast_ofNat_Int, Int.reduceAdd, Int.reduceLT, d_is_pair_of, cmpD, eqD, pairOf]
    | [a], hd => simp [runD, execs, exec, ev, evs, evAnd, evOr, evIfs, evO, evI, testR, R.bind_ok, R.bind_ex, R.ofO_some, R.ofO_none, rget0, rgetS, asgT, asgTs, lenTs, truD_bl, tru_non, tru_tup, tru_lst, backR_rt, backR_nx, backR_ex, List.length_cons, List.length_nil, List.map_cons, List.map_nil, List.replicate_zero, List.replicate_succ, List.cons_append, List.nil_append, List.append_nil, List.set_cons_zero, List.set_cons_succ, if_true, if_false, Bool.false_eq_true, Bool.true_eq_false, Nat.reduceSub, Nat.reduceAdd, Nat.zero_add, Nat.sub_self, cxN_glob, cxN_exc, Option.map_some, Option.bind_some, K.d, Bool.not_true, Bool.not_false, Option.some.injEq, beq_self_eq_true, Nat.reduceEqDiff, eq_self, Nat.reduceBEq, Bool.or_false, Bool.false_or, Bool.or_true, Bool.true_or, Bool.or_self, Bool.and_self, Bool.and_true, Bool.true_and, Bool.and_false, Bool.false_and, callB_len, callB_repr, callB_all, callB_any, callB_int, callB_tuple, callB_list, callB_isi, callB_min2, isi_non, isi_bl, isi_int, isi_str, isi_tup, isi_lst, isi_dct, len_tup, len_lst, seq_tup, seq_lst, lst_lst, tru_bool, newL_fro, liven_false, cmp_eqI, cmp_neI, cmp_eqS, cmp_neS, cmp_lt, cmp_le, cmp_gt, cmp_ge, cmp_in_tup, cmp_in_lst, cmp_nin_tup, cmp_nin_lst, bin_add, bin_sub, bin_mul, bin_mod, bin_div, bin_addS, bin_addT, bin_addL, meth_count, meth_index, meth_append, meth_popAt, sz_of, Nat.reduceLeDiff, Int.reduceEq, Int.reduceBEq, Int.cast_ofNat_Int, Int.reduceAdd, Int.reduceLT, d_is_pair_of, cmpD, eqD, pairOf]
    | [a, b], hd =>
      simp only [wfDs, Bool.and_eq_true] at hd
      have e1 : subD S (.tup [a, b]) (.int 1) = some b := subN (i := 1) rfl
      simp [runD, execs, exec, ev, evs, evAnd, evOr, evIfs, evO, evI, testR, R.bind_ok, R.bind_ex, R.ofO_some, R.ofO_none, rget0, rgetS, asgT, asgTs, lenTs, truD_bl, tru_non, tru_tup, tru_lst, backR_rt, backR_nx, backR_ex, List.length_cons, List.length_nil, List.map_cons, List.map_nil, List.replicate_zero, List.replicate_succ, List.cons_append, List.nil_append, List.append_nil, List.set_cons_zero, List.set_cons_succ, if_true, if_false, Bool.false_eq_true, Bool.true_eq_false, Nat.reduceSub, Nat.reduceAdd, Nat.zero_add, Nat.sub_self, cxN_glob, cxN_exc, Option.map_some, Option.bind_some, K.d, Bool.not_true, Bool.not_false, Option.some.injEq, beq_self_eq_true, Nat.reduceEqDiff, eq_self, Nat.reduceBEq, Bool.or_false, Bool.false_or, Bool.or_true, Bool.true_or, Bool.or_self, Bool.and_self, Bool.and_true, Bool.true_and, Bool.and_false, Bool.false_and, callB_len, callB_repr, callB_all, callB_any, callB_int, callB_tuple, callB_list, callB_isi, callB_min2, isi_non, isi_bl, isi_int, isi_str, isi_tup, isi_lst, isi_dct, len_tup, len_lst, seq_tup, seq_lst, lst_lst, tru_bool, newL_fro, liven_false, cmp_eqI, cmp_neI, cmp_eqS, cmp_neS, cmp_lt, cmp_le, cmp_gt, cmp_ge, cmp_in_tup, cmp_in_lst, cmp_nin_tup, cmp_nin_lst, bin_add, bin_sub, bin_mul, bin_mod, bin_div, bin_addS, bin_addT, bin_addL, meth_count, meth_index, meth_append, meth_popAt, sz_of, Nat.reduceLeDiff, Int.reduceEq, Int.reduceBEq, Int.cast_ofNat_Int, Int.reduceAdd, Int.reduceLT, d_is_pair_of, cmpD, eqD, pairOf, call_def h rfl, sub0, e1, run_is_one_of h hd.1 hf, run_is_one_of h hd.2.1 hs]
      cases oneOf f a <;> simp only [runD, execs, exec, ev, evs, evAnd, evOr, evIfs, evO, evI, testR, R.bind_ok, R.bind_ex, R.ofO_some, R.ofO_none, rget0, rgetS, asgT, asgTs, lenTs, truD_bl, tru_non, tru_tup, tru_lst, backR_rt, backR_nx, backR_ex, List.length_cons, List.length_nil, List.map_cons, List.map_nil, List.replicate_zero, List.replicate_succ, List.cons_append, List.nil_append, List.append_nil, List.set_cons_zero, List.set_cons_succ, if_true, if_false, Bool.false_eq_true, Bool.true_eq_false, Nat.reduceSub, Nat.reduceAdd, Nat.zero_add, Nat.sub_self, cxN_glob, cxN_exc, Option.map_some, Option.bind_some, K.d, Bool.not_true, Bool.not_false, Option.some.injEq, beq_self_eq_true, Nat.reduceEqDiff, eq_self, Nat.reduceBEq, Bool.or_false, Bool.false_or, Bool.or_true, Bool.true_or, Bool.or_self, Bool.and_self, Bool.and_true, Bool.true_and, Bool.and_false, Bool.false_and, callB_len, callB_repr, callB_all, callB_any, callB_int, callB_tuple, callB_list, callB_isi, callB_min2, isi_non, isi_bl, isi_int, isi_str, isi_tup, isi_lst, isi_dct, len_tup, len_lst, seq_tup, seq_lst, lst_lst, tru_bool, newL_fro, liven_false, cmp_eqI, cmp_neI, cmp_eqS, cmp_neS, cmp_lt, cmp_le, cmp_gt, cmp_ge, cmp_in_tup, cmp_in_lst, cmp_nin_tup, cmp_nin_lst, bin_add, bin_sub, bin_mul, bin_mod, bin_div, bin_addS, bin_addT, bin_addL, meth_count, meth_index, meth_append, meth_popAt, sz_of, Nat.reduceLeDiff, Int.reduceEq, Int.reduceBEq, Int.cast_ofNat_Int, Int.reduceAdd, Int.reduceLT]
    | a :: b :: c :: r, hd =>
      have : (((r.length + 1 + 1 + 1 : Nat) : Int) == 2) = false := by
        rw [beq_eq_false_iff_ne]; omega
      simp only [runD, execs, exec, ev, evs, evAnd, evOr, evIfs, evO, evI, testR, R.bind_ok, R.bind_ex, R.ofO_some, R.ofO_none, rget0, rgetS, asgT, asgTs, lenTs, truD_bl, tru_non, tru_tup, tru_lst, backR_rt, backR_nx, backR_ex, List.length_cons, List.length_nil, List.map_cons, List.map_nil, List.replicate_zero, List.replicate_succ, List.cons_append, List.nil_append, List.append_nil, List.set_cons_zero, List.set_cons_succ, if_true, if_false, Bool.false_eq_true, Bool.true_eq_false, Nat.reduceSub, Nat.reduceAdd, Nat.zero_add, Nat.sub_self, cxN_glob, cxN_exc, Option.map_some, Option.bind_some, K.d, Bool.not_true, Bool.not_false, Option.some.injEq, beq_self_eq_true, Nat.reduceEqDiff, eq_self, Nat.reduceBEq, Bool.or_false, Bool.false_or, Bool.or_true, Bool.true_or, Bool.or_self, Bool.and_self, Bool.and_true, Bool.true_and, Bool.and_false, Bool.false_and, callB_len, callB_repr, callB_all, callB_any, callB_int, callB_tuple, callB_list, callB_isi, callB_min2, isi_non, isi_bl, isi_int, isi_str, isi_tup, isi_lst, isi_dct, len_tup, len_lst, seq_tup, seq_lst, lst_lst, tru_bool, newL_fro, liven_false, cmp_eqI, cmp_neI, cmp_eqS, cmp_neS, cmp_lt, cmp_le, cmp_gt, cmp_ge, cmp_in_tup, cmp_in_lst, cmp_nin_tup, cmp_nin_lst, bin_add, bin_sub, bin_mul, bin_mod, bin_div, bin_addS, bin_addT, bin_addL, meth_count, meth_index, meth_append, meth_popAt, sz_of, Nat.reduceLeDiff, Int.reduceEq, Int.reduceBEq, Int.cast_ofNat_Int, Int.reduceAdd, Int.reduceLT, d_is_pair_of, pairOf, this]
  | _ => first | (simp [wfD] at hd; done) | simp only [runD, execs, exec, ev, evs, evAnd, evOr, evIfs, evO, evI, testR, R.bind_ok, R.bind_ex, R.ofO_some, R.ofO_none, rget0, rgetS, asgT, asgTs, lenTs, truD_bl, tru_non, tru_tup, tru_lst, backR_rt, backR_nx, backR_ex, List.length_cons, List.length_nil, List.map_cons, List.map_nil, List.replicate_zero, List.replicate_succ, List.cons_append, List.nil_append, List.append_nil, List.set_cons_zero, List.set_cons_succ, if_true, if_false, Bool.false_eq_true, Bool.true_eq_false, Nat.reduceSub, Nat.reduceAdd, Nat.zero_add, Nat.sub_self, cxN_glob, cxN_exc, Option.map_some, Option.bind_some, K.d, Bool.not_true, Bool.not_false, Option.some.injEq, beq_self_eq_true, Nat.reduceEqDiff, eq_self, Nat.reduceBEq, Bool.or_false, Bool.false_or, Bool.or_true, Bool.true_or, Bool.or_self, Bool.and_self, Bool.and_true, Bool.true_and, Bool.and_false, Bool.false_and, callB_len, callB_repr, callB_all, callB_any, callB_int, callB_tuple, callB_list, callB_isi, callB_min2, isi_non, isi_bl, isi_int, isi_str, isi_tup, isi_lst, isi_dct, len_tup, len_lst, seq_tup, seq_lst, lst_lst, tru_bool, newL_fro, liven_false, cmp_eqI, cmp_neI, cmp_eqS, cmp_neS, cmp_lt, cmp_le, cmp_gt, cmp_ge, cmp_in_tup, cmp_in_lst, cmp_nin_tup, cmp_nin_lst, bin_add, bin_sub, bin_mul, bin_mod, bin_div, bin_addS, bin_addT, bin_addL, meth_count, meth_index, meth_append, meth_popAt, sz_of, Nat.reduceLeDiff, Int.reduceEq, Int.reduceBEq, Int.cast_ofNat_Int, Int.reduceAdd, Int.reduceLT, d_is_pair_of, pairOf]
structure CellT (T : Tab) : Prop extends LogT T where
  is_cell : T.defs "is_cell" = some d_is_cell
theorem okP : PLACES.all PyData.strOk = true := by decide +kernel
theorem okM : MOVING.all PyData.strOk = true := by decide +kernel
theorem okW : WORDS.all PyData.strOk = true := by decide +kernel
theorem okE : EVENTS.all PyData.strOk = true := by decide +kernel
theorem okL : LEADS.all PyData.strOk = true := by decide +kernel
theorem okR : RESULTS.all PyData.strOk = true := by decide +kernel
theorem okQ : REPORTS.all PyData.strOk = true := by decide +kernel
theorem run_is_cell (h : CellT T) {d : D} (hd : wfD d = true) : Run T (n + 5) "is_cell" [d] S = .ok (.bl (isCell d)) S := by
  rw [Run_def h.is_cell rfl]
  simp only [runD, execs, exec, ev, evs, evAnd, evOr, evIfs, evO, evI, testR, R.bind_ok, R.bind_ex, R.ofO_some, R.ofO_none, rget0, rgetS, asgT, asgTs, lenTs, truD_bl, tru_non, tru_tup, tru_lst, backR_rt, backR_nx, backR_ex, List.length_cons, List.length_nil, List.map_cons, List.map_nil, List.replicate_zero, List.replicate_succ, List.cons_append, List.nil_append, List.append_nil, List.set_cons_zero, List.set_cons_succ, if_true, if_false, Bool.false_eq_true, Bool.true_eq_false, Nat.reduceSub, Nat.reduceAdd, Nat.zero_add, Nat.sub_self, cxN_glob, cxN_exc, Option.map_some, Option.bind_some, K.d, Bool.not_true, Bool.not_false, Option.some.injEq, beq_self_eq_true, Nat.reduceEqDiff, eq_self, Nat.reduceBEq, Bool.or_false, Bool.false_or, Bool.or_true, Bool.true_or, Bool.or_self, Bool.and_self, Bool.and_true, Bool.true_and, Bool.and_false, Bool.false_and, callB_len, callB_repr, callB_all, callB_any, callB_int, callB_tuple, callB_list, callB_isi, callB_min2, isi_non, isi_bl, isi_int, isi_str, isi_tup, isi_lst, isi_dct, len_tup, len_lst, seq_tup, seq_lst, lst_lst, tru_bool, newL_fro, liven_false, cmp_eqI, cmp_neI, cmp_eqS, cmp_neS, cmp_lt, cmp_le, cmp_gt, cmp_ge, cmp_in_tup, cmp_in_lst, cmp_nin_tup, cmp_nin_lst, bin_add, bin_sub, bin_mul, bin_mod, bin_div, bin_addS, bin_addT, bin_addL, meth_count, meth_index, meth_append, meth_popAt, sz_of, Nat.reduceLeDiff, Int.reduceEq, Int.reduceBEq, Int.cast_ofNat_Int, Int.reduceAdd, Int.reduceLT, d_is_cell, h.gP, h.gW, call_def h.is_pair_of rfl, run_is_pair_of h.is_one_of h.is_pair_of hd okP okW, isCell]
theorem evI_seq_tup {C : Cx} {e : E} {ρ : Env} {S S' : Store} {xs : List D} (h : ev C e ρ S = .ok (.tup xs) S') : evI C (.seq e) ρ S = .ok xs S' := by
  simp only [evI, h, R.bind_ok]
theorem run_are_cells (h : CellT T) {d : D} (hd : wfD d = true) : Run T (n + 6) "are_cells" [d] S = .ok (.bl (areCells d)) S := by
  rw [Run_def h.are_cells rfl]
  cases d with
  | tup xs =>
    simp only [wfD] at hd
    match xs, hd with
    | [], hd => simp only [runD, execs, exec, ev, evs, evAnd, evOr, evIfs, evO, evI, testR, R.bind_ok, R.bind_ex, R.ofO_some, R.ofO_none, rget0, rgetS, asgT, asgTs, lenTs, truD_bl, tru_non, tru_tup, tru_lst, backR_rt, backR_nx, backR_ex, List.length_cons, List.length_nil, List.map_cons, List.map_nil, List.replicate_zero, List.replicate_succ, List.cons_append, List.nil_append, List.append_nil, List.set_cons_zero, List.set_cons_succ, if_true, if_false, Bool.false_eq_true, Bool.true_eq_false, Nat.reduceSub, Nat.reduceAdd, Nat.zero_add, Nat.sub_self, cxN_glob, cxN_exc, Option.map_some, Option.bind_some, K.d, Bool.not_true, Bool.not_false, Option.some.injEq, beq_self_eq_true, Nat.reduceEqDiff, eq_self, Nat.reduceBEq, Bool.or_false, Bool.false_or, Bool.or_true, Bool.true_or, Bool.or_self, Bool.and_self, Bool.and_true, Bool.true_and, Bool.and_false, Bool.false_and, callB_len, callB_repr, callB_all, callB_any, callB_int, callB_tuple, callB_list, callB_isi, callB_min2, isi_non, isi_bl, isi_int, isi_str, isi_tup, isi_lst, isi_dct, len_tup, len_lst, seq_tup, seq_lst, lst_lst, tru_bool, newL_fro, liven_false, cmp_eqI, cmp_neI, cmp_eqS, cmp_neS, cmp_lt, cmp_le, cmp_gt, cmp_ge, cmp_in_tup, cmp_in_lst, cmp_nin_tup, cmp_nin_lst, bin_add, bin_sub, bin_mul, bin_mod, bin_div, bin_addS, bin_addT, bin_addL, meth_count, meth_index, meth_append, meth_popAt, sz_of, Nat.reduceLeDiff, Int.reduceEq, Int.reduceBEq, Int.cast_ofNat_Int, Int.reduceAdd, Int.reduceLT, d_are_cells, h.gM, areCells, MOVING]
    | [a], hd => simp only [runD, execs, exec, ev, evs, evAnd, evOr, evIfs, evO, evI, testR, R.bind_ok, R.bind_ex, R.ofO_some, R.ofO_none, rget0, rgetS, asgT, asgTs, lenTs, truD_bl, tru_non, tru_tup, tru_lst, backR_rt, backR_nx, backR_ex, List.length_cons, List.length_nil, List.map_cons, List.map_nil, List.replicate_zero, List.replicate_succ, List.cons_append, List.nil_append, List.append_nil, List.set_cons_zero, List.set_cons_succ, if_true, if_false, Bool.false_eq_true, Bool.true_eq_false, Nat.reduceSub, Nat.reduceAdd, Nat.zero_add, Nat.sub_self, cxN_glob, cxN_exc, Option.map_some, Option.bind_some, K.d, Bool.not_true, Bool.not_false, Option.some.injEq, beq_self_eq_true, Nat.reduceEqDiff, eq_self, Nat.reduceBEq, Bool.or_false, Bool.false_or, Bool.or_true, Bool.true_or, Bool.or_self, Bool.and_self, Bool.and_true, Bool.true_and, Bool.and_false, Bool.false_and, callB_len, callB_repr, callB_all, callB_any, callB_int, callB_tuple, callB_list, callB_isi, callB_min2, isi_non, isi_bl, isi_int, isi_str, isi_tup, isi_lst, isi_dct, len_tup, len_lst, seq_tup, seq_lst, lst_lst, tru_bool, newL_fro, liven_false, cmp_eqI, cmp_neI, cmp_eqS, cmp_neS, cmp_lt, cmp_le, cmp_gt, cmp_ge, cmp_in_tup, cmp_in_lst, cmp_nin_tup, cmp_nin_lst, bin_add, bin_sub, bin_mul, bin_mod, bin_div, bin_addS, bin_addT, bin_addL, meth_count, meth_index, meth_append, meth_popAt, sz_of, Nat.reduceLeDiff, Int.reduceEq, Int.reduceBEq, Int.cast_ofNat_Int, Int.reduceAdd, Int.reduceLT, d_are_cells, h.gM, areCells, MOVING]
    | [a, b], hd =>
      simp only [wfDs, Bool.and_eq_true] at hd
      simp only [runD, execs, exec, ev, evs, evAnd, evOr, evIfs, evO, evI, testR, R.bind_ok, R.bind_ex, R.ofO_some, R.ofO_none, rget0, rgetS, asgT, asgTs, lenTs, truD_bl, tru_non, tru_tup, tru_lst, backR_rt, backR_nx, backR_ex, List.length_cons, List.length_nil, List.map_cons, List.map_nil, List.replicate_zero, List.replicate_succ, List.cons_append, List.nil_append, List.append_nil, List.set_cons_zero, List.set_cons_succ, if_true, if_false, Bool.false_eq_true, Bool.true_eq_false, Nat.reduceSub, Nat.reduceAdd, Nat.zero_add, Nat.sub_self, cxN_glob, cxN_exc, Option.map_some, Option.bind_some, K.d, Bool.not_true, Bool.not_false, Option.some.injEq, beq_self_eq_true, Nat.reduceEqDiff, eq_self, Nat.reduceBEq, Bool.or_false, Bool.false_or, Bool.or_true, Bool.true_or, Bool.or_self, Bool.and_self, Bool.and_true, Bool.true_and, Bool.and_false, Bool.false_and, callB_len, callB_repr, callB_all, callB_any, callB_int, callB_tuple, callB_list, callB_isi, callB_min2, isi_non, isi_bl, isi_int, isi_str, isi_tup, isi_lst, isi_dct, len_tup, len_lst, seq_tup, seq_lst, lst_lst, tru_bool, newL_fro, liven_false, cmp_eqI, cmp_neI, cmp_eqS, cmp_neS, cmp_lt, cmp_le, cmp_gt, cmp_ge, cmp_in_tup, cmp_in_lst, cmp_nin_tup, cmp_nin_lst, bin_add, bin_sub, bin_mul, bin_mod, bin_div, bin_addS, bin_addT, bin_addL, meth_count, meth_index, meth_append, meth_popAt, sz_of, Nat.reduceLeDiff, Int.reduceEq, Int.reduceBEq, Int.cast_ofNat_Int, Int.reduceAdd, Int.reduceLT, d_are_cells, h.gM, areCells, MOVING, compL, bindE, wipeE, call_def h.is_cell rfl, run_is_cell h hd.1, run_is_cell h hd.2.1, noxR, boolsOf, List.all_cons, List.all_nil, id]
    | a :: b :: c :: r, hd =>
      have : (((r.length + 1 + 1 + 1 : Nat) : Int) == 2) = false := by
        rw [beq_eq_false_iff_ne]; omega
      simp only [runD, execs, exec, ev, evs, evAnd, evOr, evIfs, evO, evI, testR, R.bind_ok, R.bind_ex, R.ofO_some, R.ofO_none, rget0, rgetS, asgT, asgTs, lenTs, truD_bl, tru_non, tru_tup, tru_lst, backR_rt, backR_nx, backR_ex, List.length_cons, List.length_nil, List.map_cons, List.map_nil, List.replicate_zero, List.replicate_succ, List.cons_append, List.nil_append, List.append_nil, List.set_cons_zero, List.set_cons_succ, if_true, if_false, Bool.false_eq_true, Bool.true_eq_false, Nat.reduceSub, Nat.reduceAdd, Nat.zero_add, Nat.sub_self, cxN_glob, cxN_exc, Option.map_some, Option.bind_some, K.d, Bool.not_true, Bool.not_false, Option.some.injEq, beq_self_eq_true, Nat.reduceEqDiff, eq_self, Nat.reduceBEq, Bool.or_false, Bool.false_or, Bool.or_true, Bool.true_or, Bool.or_self, Bool.and_self, Bool.and_true, Bool.true_and, Bool.and_false, Bool.false_and, callB_len, callB_repr, callB_all, callB_any, callB_int, callB_tuple, callB_list, callB_isi, callB_min2, isi_non, isi_bl, isi_int, isi_str, isi_tup, isi_lst, isi_dct, len_tup, len_lst, seq_tup, seq_lst, lst_lst, tru_bool, newL_fro, liven_false, cmp_eqI, cmp_neI, cmp_eqS, cmp_neS, cmp_lt, cmp_le, cmp_gt, cmp_ge, cmp_in_tup, cmp_in_lst, cmp_nin_tup, cmp_nin_lst, bin_add, bin_sub, bin_mul, bin_mod, bin_div, bin_addS, bin_addT, bin_addL, meth_count, meth_index, meth_append, meth_popAt, sz_of, Nat.reduceLeDiff, Int.reduceEq, Int.reduceBEq, Int.cast_ofNat_Int, Int.reduceAdd, Int.reduceLT, d_are_cells, h.gM, MOVING, areCells, this]
  | _ => first | (simp [wfD] at hd; done) | simp only [runD, execs, exec, ev, evs, evAnd, evOr, evIfs, evO, evI, testR, R.bind_ok, R.bind_ex, R.ofO_some, R.ofO_none, rget0, rgetS, asgT, asgTs, lenTs, truD_bl, tru_non, tru_tup, tru_lst, backR_rt, backR_nx, backR_ex, List.length_cons, List.length_nil, List.map_cons, List.map_nil, List.replicate_zero, List.replicate_succ, List.cons_append, List.nil_append, List.append_nil, List.set_cons_zero, List.set_cons_succ, if_true, if_false, Bool.false_eq_true, Bool.true_eq_false, Nat.reduceSub, Nat.reduceAdd, Nat.zero_add, Nat.sub_self, cxN_glob, cxN_exc, Option.map_some, Option.bind_some, K.d, Bool.not_true, Bool.not_false, Option.some.injEq, beq_self_eq_true, Nat.reduceEqDiff, eq_self, Nat.reduceBEq, Bool.or_false, Bool.false_or, Bool.or_true, Bool.true_or, Bool.or_self, Bool.and_self, Bool.and_true, Bool.true_and, Bool.and_false, Bool.false_and, callB_len, callB_repr, callB_all, callB_any, callB_int, callB_tuple, callB_list, callB_isi, callB_min2, isi_non, isi_bl, isi_int, isi_str, isi_tup, isi_lst, isi_dct, len_tup, len_lst, seq_tup, seq_lst, lst_lst, tru_bool, newL_fro, liven_false, cmp_eqI, cmp_neI, cmp_eqS, cmp_neS, cmp_lt, cmp_le, cmp_gt, cmp_ge, cmp_in_tup, cmp_in_lst, cmp_nin_tup, cmp_nin_lst, bin_add, bin_sub, bin_mul, bin_mod, bin_div, bin_addS, bin_addT, bin_addL, meth_count, meth_index, meth_append, meth_popAt, sz_of, Nat.reduceLeDiff, Int.reduceEq, Int.reduceBEq, Int.cast_ofNat_Int, Int.reduceAdd, Int.reduceLT, d_are_cells, areCells]
theorem run_is_table (h : CellT T) {d : D} (hd : wfD d = true) : Run T (n + 7) "is_table" [d] S = .ok (.bl (isTable d)) S := by
  rw [Run_def h.is_table rfl]
  cases d with
  | tup xs =>
    simp only [wfD] at hd
    match xs, hd with
    | [], hd => simp only [runD, execs, exec, ev, evs, evAnd, evOr, evIfs, evO, evI, testR, R.bind_ok, R.bind_ex, R.ofO_some, R.ofO_none, rget0, rgetS, asgT, asgTs, lenTs, truD_bl, tru_non, tru_tup, tru_lst, backR_rt, backR_nx, backR_ex, List.length_cons, List.length_nil, List.map_cons, List.map_nil, List.replicate_zero, List.replicate_succ, List.cons_append, List.nil_append, List.append_nil, List.set_cons_zero, List.set_cons_succ, if_true, if_false, Bool.false_eq_true, Bool.true_eq_false, Nat.reduceSub, Nat.reduceAdd, Nat.zero_add, Nat.sub_self, cxN_glob, cxN_exc, Option.map_some, Option.bind_some, K.d, Bool.not_true, Bool.not_false, Option.some.injEq, beq_self_eq_true, Nat.reduceEqDiff, eq_self, Nat.reduceBEq, Bool.or_false, Bool.false_or, Bool.or_true, Bool.true_or, Bool.or_self, Bool.and_self, Bool.and_true, Bool.true_and, Bool.and_false, Bool.false_and, callB_len, callB_repr, callB_all, callB_any, callB_int, callB_tuple, callB_list, callB_isi, callB_min2, isi_non, isi_bl, isi_int, isi_str, isi_tup, isi_lst, isi_dct, len_tup, len_lst, seq_tup, seq_lst, lst_lst, tru_bool, newL_fro, liven_false, cmp_eqI, cmp_neI, cmp_eqS, cmp_neS, cmp_lt, cmp_le, cmp_gt, cmp_ge, cmp_in_tup, cmp_in_lst, cmp_nin_tup, cmp_nin_lst, bin_add, bin_sub, bin_mul, bin_mod, bin_div, bin_addS, bin_addT, bin_addL, meth_count, meth_index, meth_append, meth_popAt, sz_of, Nat.reduceLeDiff, Int.reduceEq, Int.reduceBEq, Int.cast_ofNat_Int, Int.reduceAdd, Int.reduceLT, d_is_table, h.gE, isTable, EVENTS]
    | [a], hd => simp only [runD, execs, exec, ev, evs, evAnd, evOr, evIfs, evO, evI, testR, R.bind_ok, R.bind_ex, R.ofO_some, R.ofO_none, rget0, rgetS, asgT, asgTs, lenTs, truD_bl, tru_non, tru_tup, tru_lst, backR_rt, backR_nx, backR_ex, List.length_cons, List.length_nil, List.map_cons, List.map_nil, List.replicate_zero, List.replicate_succ, List.cons_append, List.nil_append, List.append_nil, List.set_cons_zero, List.set_cons_succ, if_true, if_false, Bool.false_eq_true, Bool.true_eq_false, Nat.reduceSub, Nat.reduceAdd, Nat.zero_add, Nat.sub_self, cxN_glob, cxN_exc, Option.map_some, Option.bind_some, K.d, Bool.not_true, Bool.not_false, Option.some.injEq, beq_self_eq_true, Nat.reduceEqDiff, eq_self, Nat.reduceBEq, Bool.or_false, Bool.false_or, Bool.or_true, Bool.true_or, Bool.or_self, Bool.and_self, Bool.and_true, Bool.true_and, Bool.and_false, Bool.false_and, callB_len, callB_repr, callB_all, callB_any, callB_int, callB_tuple, callB_list, callB_isi, callB_min2, isi_non, isi_bl, isi_int, isi_str, isi_tup, isi_lst, isi_dct, len_tup, len_lst, seq_tup, seq_lst, lst_lst, tru_bool, newL_fro, liven_false, cmp_eqI, cmp_neI, cmp_eqS, cmp_neS, cmp_lt, cmp_le, cmp_gt, cmp_ge, cmp_in_tup, cmp_in_lst, cmp_nin_tup, cmp_nin_lst, bin_add, bin_sub, bin_mul, bin_mod, bin_div, bin_addS, bin_addT, bin_addL, meth_count, meth_index, meth_append, meth_popAt, sz_of, Nat.reduceLeDiff, Int.reduceEq, Int.reduceBEq, Int.cast_ofNat_Int, Int.reduceAdd, Int.reduceLT, d_is_table, h.gE, isTable, EVENTS]
    | [a, b], hd => simp only [runD, execs, exec, ev, evs, evAnd, evOr, evIfs, evO, evI, testR, R.bind_ok, R.bind_ex, R.ofO_some, R.ofO_none, rget0, rgetS, asgT, asgTs, lenTs, truD_bl, tru_non, tru_tup, tru_lst, backR_rt, backR_nx, backR_ex, List.length_cons, List.length_nil, List.map_cons, List.map_nil, List.replicate_zero, List.replicate_succ, List.cons_append, List.nil_append, List.append_nil, List.set_cons_zero, List.set_cons_succ, if_true, if_false, Bool.false_eq_true, Bool.true_eq_false, Nat.reduceSub, Nat.reduceAdd, Nat.zero_add, Nat.sub_self, cxN_glob, cxN_exc, Option.map_some, Option.bind_some, K.d, Bool.not_true, Bool.not_false, Option.some.injEq, beq_self_eq_true, Nat.reduceEqDiff, eq_self, Nat.reduceBEq, Bool.or_false, Bool.false_or, Bool.or_true, Bool.true_or, Bool.or_self, Bool.and_self, Bool.and_true, Bool.true_and, Bool.and_false, Bool.false_and, callB_len, callB_repr, callB_all, callB_any, callB_int, callB_tuple, callB_list, callB_isi, callB_min2, isi_non, isi_bl, isi_int, isi_str, isi_tup, isi_lst, isi_dct, len_tup, len_lst, seq_tup, seq_lst, lst_lst, tru_bool, newL_fro, liven_false, cmp_eqI, cmp_neI, cmp_eqS, cmp_neS, cmp_lt, cmp_le, cmp_gt, cmp_ge, cmp_in_tup, cmp_in_lst, cmp_nin_tup, cmp_nin_lst, bin_add, bin_sub, bin_mul, bin_mod, bin_div, bin_addS, bin_addT, bin_addL, meth_count, meth_index, meth_append, meth_popAt, sz_of, Nat.reduceLeDiff, Int.reduceEq, Int.reduceBEq, Int.cast_ofNat_Int, Int.reduceAdd, Int.reduceLT, d_is_table, h.gE, isTable, EVENTS]
    | [a, b, c], hd => simp only [runD, execs, exec, ev, evs, evAnd, evOr, evIfs, evO, evI, testR, R.bind_ok, R.bind_ex, R.ofO_some, R.ofO_none, rget0, rgetS, asgT, asgTs, lenTs, truD_bl, tru_non, tru_tup, tru_lst, backR_rt, backR_nx, backR_ex, List.length_cons, List.length_nil, List.map_cons, List.map_nil, List.replicate_zero, List.replicate_succ, List.cons_append, List.nil_append, List.append_nil, List.set_cons_zero, List.set_cons_succ, if_true, if_false, Bool.false_eq_true, Bool.true_eq_false, Nat.reduceSub, Nat.reduceAdd, Nat.zero_add, Nat.sub_self, cxN_glob, cxN_exc, Option.map_some, Option.bind_some, K.d, Bool.not_true, Bool.not_false, Option.some.injEq, beq_self_eq_true, Nat.reduceEqDiff, eq_self, Nat.reduceBEq, Bool.or_false, Bool.false_or, Bool.or_true, Bool.true_or, Bool.or_self, Bool.and_self, Bool.and_true, Bool.true_and, Bool.and_false, Bool.false_and, callB_len, callB_repr, callB_all, callB_any, callB_int, callB_tuple, callB_list, callB_isi, callB_min2, isi_non, isi_bl, isi_int, isi_str, isi_tup, isi_lst, isi_dct, len_tup, len_lst, seq_tup, seq_lst, lst_lst, tru_bool, newL_fro, liven_false, cmp_eqI, cmp_neI, cmp_eqS, cmp_neS, cmp_lt, cmp_le, cmp_gt, cmp_ge, cmp_in_tup, cmp_in_lst, cmp_nin_tup, cmp_nin_lst, bin_add, bin_sub, bin_mul, bin_mod, bin_div, bin_addS, bin_addT, bin_addL, meth_count, meth_index, meth_append, meth_popAt, sz_of, Nat.reduceLeDiff, Int.reduceEq, Int.reduceBEq, Int.cast_ofNat_Int, Int.reduceAdd, Int.reduceLT, d_is_table, h.gE, isTable, EVENTS]
    | [w, a, b, c], hd =>
      simp only [wfDs, Bool.and_eq_true] at hd
      have es : sliceD S (.tup [w, a, b, c]) (some 1) none = some (.tup [a, b, c]) := rfl
      simp only [runD, execs, exec, ev, evs, evAnd, evOr, evIfs, evO, evI, testR, R.bind_ok, R.bind_ex, R.ofO_some, R.ofO_none, rget0, rgetS, asgT, asgTs, lenTs, truD_bl, tru_non, tru_tup, tru_lst, backR_rt, backR_nx, backR_ex, List.length_cons, List.length_nil, List.map_cons, List.map_nil, List.replicate_zero, List.replicate_succ, List.cons_append, List.nil_append, List.append_nil, List.set_cons_zero, List.set_cons_succ, if_true, if_false, Bool.false_eq_true, Bool.true_eq_false, Nat.reduceSub, Nat.reduceAdd, Nat.zero_add, Nat.sub_self, cxN_glob, cxN_exc, Option.map_some, Option.bind_some, K.d, Bool.not_true, Bool.not_false, Option.some.injEq, beq_self_eq_true, Nat.reduceEqDiff, eq_self, Nat.reduceBEq, Bool.or_false, Bool.false_or, Bool.or_true, Bool.true_or, Bool.or_self, Bool.and_self, Bool.and_true, Bool.true_and, Bool.and_false, Bool.false_and, callB_len, callB_repr, callB_all, callB_any, callB_int, callB_tuple, callB_list, callB_isi, callB_min2, isi_non, isi_bl, isi_int, isi_str, isi_tup, isi_lst, isi_dct, len_tup, len_lst, seq_tup, seq_lst, lst_lst, tru_bool, newL_fro, liven_false, cmp_eqI, cmp_neI, cmp_eqS, cmp_neS, cmp_lt, cmp_le, cmp_gt, cmp_ge, cmp_in_tup, cmp_in_lst, cmp_nin_tup, cmp_nin_lst, bin_add, bin_sub, bin_mul, bin_mod, bin_div, bin_addS, bin_addT, bin_addL, meth_count, meth_index, meth_append, meth_popAt, sz_of, Nat.reduceLeDiff, Int.reduceEq, Int.reduceBEq, Int.cast_ofNat_Int, Int.reduceAdd, Int.reduceLT, d_is_table, h.gE, h.gW, isTable, EVENTS, compL, bindE, wipeE, sub0, call_def h.is_one_of rfl, call_def h.are_cells rfl, run_is_one_of h.is_one_of hd.1 okW, es, run_are_cells h hd.2.1, run_are_cells h hd.2.2.1, run_are_cells h hd.2.2.2.1, noxR, boolsOf, List.all_cons, List.all_nil, id]
      cases oneOf WORDS w <;> simp only [runD, execs, exec, ev, evs, evAnd, evOr, evIfs, evO, evI, testR, R.bind_ok, R.bind_ex, R.ofO_some, R.ofO_none, rget0, rgetS, asgT, asgTs, lenTs, truD_bl, tru_non, tru_tup, tru_lst, backR_rt, backR_nx, backR_ex, List.length_cons, List.length_nil, List.map_cons, List.map_nil, List.replicate_zero, List.replicate_succ, List.cons_append, List.nil_append, List.append_nil, List.set_cons_zero, List.set_cons_succ, if_true, if_false, Bool.false_eq_true, Bool.true_eq_false, Nat.reduceSub, Nat.reduceAdd, Nat.zero_add, Nat.sub_self, cxN_glob, cxN_exc, Option.map_some, Option.bind_some, K.d, Bool.not_true, Bool.not_false, Option.some.injEq, beq_self_eq_true, Nat.reduceEqDiff, eq_self, Nat.reduceBEq, Bool.or_false, Bool.false_or, Bool.or_true, Bool.true_or, Bool.or_self, Bool.and_self, Bool.and_true, Bool.true_and, Bool.and_false, Bool.false_and, callB_len, callB_repr, callB_all, callB_any, callB_int, callB_tuple, callB_list, callB_isi, callB_min2, isi_non, isi_bl, isi_int, isi_str, isi_tup, isi_lst, isi_dct, len_tup, len_lst, seq_tup, seq_lst, lst_lst, tru_bool, newL_fro, liven_false, cmp_eqI, cmp_neI, cmp_eqS, cmp_neS, cmp_lt, cmp_le, cmp_gt, cmp_ge, cmp_in_tup, cmp_in_lst, cmp_nin_tup, cmp_nin_lst, bin_add, bin_sub, bin_mul, bin_mod, bin_div, bin_addS, bin_addT, bin_addL, meth_count, meth_index, meth_append, meth_popAt, sz_of, Nat.reduceLeDiff, Int.reduceEq, Int.reduceBEq, Int.cast_ofNat_Int, Int.reduceAdd, Int.reduceLT]
    | a :: b :: c :: e :: f :: r, hd =>
      have : (((r.length + 1 + 1 + 1 + 1 + 1 : Nat) : Int) == 4) = false := by
        rw [beq_eq_false_iff_ne]; omega
      simp only [runD, execs, exec, ev, evs, evAnd, evOr, evIfs, evO, evI, testR, R.bind_ok, R.bind_ex, R.ofO_some, R.ofO_none, rget0, rgetS, asgT, asgTs, lenTs, truD_bl, tru_non, tru_tup, tru_lst, backR_rt, backR_nx, backR_ex, List.length_cons, List.length_nil, List.map_cons, List.map_nil, List.replicate_zero, List.replicate_succ, List.cons_append, List.nil_append, List.append_nil, List.set_cons_zero, List.set_cons_succ, if_true, if_false, Bool.false_eq_true, Bool.true_eq_false, Nat.reduceSub, Nat.reduceAdd, Nat.zero_add, Nat.sub_self, cxN_glob, cxN_exc, Option.map_some, Option.bind_some, K.d, Bool.not_true, Bool.not_false, Option.some.injEq, beq_self_eq_true, Nat.reduceEqDiff, eq_self, Nat.reduceBEq, Bool.or_false, Bool.false_or, Bool.or_true, Bool.true_or, Bool.or_self, Bool.and_self, Bool.and_true, Bool.true_and, Bool.and_false, Bool.false_and, callB_len, callB_repr, callB_all, callB_any, callB_int, callB_tuple, callB_list, callB_isi, callB_min2, isi_non, isi_bl, isi_int, isi_str, isi_tup, isi_lst, isi_dct, len_tup, len_lst, seq_tup, seq_lst, lst_lst, tru_bool, newL_fro, liven_false, cmp_eqI, cmp_neI, cmp_eqS, cmp_neS, cmp_lt, cmp_le, cmp_gt, cmp_ge, cmp_in_tup, cmp_in_lst, cmp_nin_tup, cmp_nin_lst, bin_add, bin_sub, bin_mul, bin_mod, bin_div, bin_addS, bin_addT, bin_addL, meth_count, meth_index, meth_append, meth_popAt, sz_of, Nat.reduceLeDiff, Int.reduceEq, Int.reduceBEq, Int.cast_ofNat_Int, Int.reduceAdd, Int.reduceLT, d_is_table, h.gE, EVENTS, isTable, this]
  | _ => first | (simp [wfD] at hd; done) | simp only [runD, execs, exec, ev, evs, evAnd, evOr, evIfs, evO, evI, testR, R.bind_ok, R.bind_ex, R.ofO_some, R.ofO_none, rget0, rgetS, asgT, asgTs, lenTs, truD_bl, tru_non, tru_tup, tru_lst, backR_rt, backR_nx, backR_ex, List.length_cons, List.length_nil, List.map_cons, List.map_nil, List.replicate_zero, List.replicate_succ, List.cons_append, List.nil_append, List.append_nil, List.set_cons_zero, List.set_cons_succ, if_true, if_false, Bool.false_eq_true, Bool.true_eq_false, Nat.reduceSub, Nat.reduceAdd, Nat.zero_add, Nat.sub_self, cxN_glob, cxN_exc, Option.map_some, Option.bind_some, K.d, Bool.not_true, Bool.not_false, Option.some.injEq, beq_self_eq_true, Nat.reduceEqDiff, eq_self, Nat.reduceBEq, Bool.or_false, Bool.false_or, Bool.or_true, Bool.true_or, Bool.or_self, Bool.and_self, Bool.and_true, Bool.true_and, Bool.and_false, Bool.false_and, callB_len, callB_repr, callB_all, callB_any, callB_int, callB_tuple, callB_list, callB_isi, callB_min2, isi_non, isi_bl, isi_int, isi_str, isi_tup, isi_lst, isi_dct, len_tup, len_lst, seq_tup, seq_lst, lst_lst, tru_bool, newL_fro, liven_false, cmp_eqI, cmp_neI, cmp_eqS, cmp_neS, cmp_lt, cmp_le, cmp_gt, cmp_ge, cmp_in_tup, cmp_in_lst, cmp_nin_tup, cmp_nin_lst, bin_add, bin_sub, bin_mul, bin_mod, bin_div, bin_addS, bin_addT, bin_addL, meth_count, meth_index, meth_append, meth_popAt, sz_of, Nat.reduceLeDiff, Int.reduceEq, Int.reduceBEq, Int.cast_ofNat_Int, Int.reduceAdd, Int.reduceLT, d_is_table, isTable]
theorem sortB_of {xs : List D} (h : (∀ x ∈ xs, ∃ y ys, x = .tup (y :: ys)) ∨ ∀ x ∈ xs, ∃ s, x = .str s) : sortB xs = true := by
  unfold sortB
  rw [Bool.or_eq_true, List.all_eq_true, List.all_eq_true]
  rcases h with h | h
  · refine .inl fun x hx => ?_
    obtain ⟨y, ys, rfl⟩ := h x hx
    rfl
  · refine .inr fun x hx => ?_
    obtain ⟨s, rfl⟩ := h x hx
    rfl
/-- small data that may be sorted, in a set too -/
structure Ords (xs : List D) : Prop where
  wf : ∀ x ∈ xs, wfD x = true
  fit : ∀ x ∈ xs, fitT x = true
  dep : ∀ x ∈ xs, depT x ≤ 8
  hsh : ∀ x ∈ xs, hshT x = true
  ord : ∀ x ∈ xs, ∀ y ∈ xs, ordT x y = true
  alike : (∀ x ∈ xs, ∃ y ys, x = .tup (y :: ys)) ∨ ∀ x ∈ xs, ∃ s, x = .str s
  short : xs.length < 64
theorem Ords.all {xs : List D} (h : Ords xs) : ordAll xs = true ∧ setB xs = true := by
  constructor
  · simp only [ordAll, Bool.and_eq_true, List.all_eq_true]
    exact ⟨⟨h.fit, h.ord⟩, sortB_of h.alike⟩
  · simp only [setB, Bool.and_eq_true, List.all_eq_true, decide_eq_true_eq]
    exact ⟨fun x hx => ⟨h.hsh x hx, h.dep x hx⟩, h.short⟩
theorem run_are_ascending (h : T.defs "are_ascending" = some d_are_ascending) {xs : List D} (o : Ords xs) : Run T (n + 3) "are_ascending" [.tup xs] S = .ok (.bl (ascD xs)) S := by
  rw [Run_def h rfl]
  have h1 := o.all
  have h2 : xs.length ≤ 1000000 := by have := o.short; omega
  have ms : ∀ x ∈ sortT (dedupT xs), x ∈ xs := fun x hx => mem_dedupT (mem_sortT.mp hx)
  have h3 : (sortT (dedupT xs)).length ≤ 1000000 := by rw [length_sortT]; have := length_dedupT (xs := xs); omega
  have e1 : ∀ live, callBD .sortedSet live [.tup xs] S = newL live (sortT (dedupT xs)) S := fun live => by
    show (if ordAll xs && setB xs then newL live (sortT (dedupT xs)) S else .bad) = _
    rw [h1.1, h1.2]; rfl
  have wx : wfDs xs = true := by rw [wfDs_all, List.all_eq_true]; exact o.wf
  have wy : wfDs (sortT (dedupT xs)) = true := by rw [wfDs_all, List.all_eq_true]; exact fun x hx => o.wf x (ms x hx)
  have e2 : cmpD .Eq (.lst xs) (.lst (sortT (dedupT xs))) S = some (ascD xs) :=
    eq_lst wx wy (fun x hx => ⟨o.fit x hx, Nat.le_trans (o.dep x hx) (by decide)⟩) fun x hx => ⟨o.fit x (ms x hx), Nat.le_trans (o.dep x (ms x hx)) (by decide)⟩
  simp only [runD, execs, exec, ev, evs, evAnd, evOr, evIfs, evO, evI, testR, R.bind_ok, R.bind_ex, R.ofO_some, R.ofO_none, rget0, rgetS, asgT, asgTs, lenTs, truD_bl, tru_non, tru_tup, tru_lst, backR_rt, backR_nx, backR_ex, List.length_cons, List.length_nil, List.map_cons, List.map_nil, List.replicate_zero, List.replicate_succ, List.cons_append, List.nil_append, List.append_nil, List.set_cons_zero, List.set_cons_succ, if_true, if_false, Bool.false_eq_true, Bool.true_eq_false, Nat.reduceSub, Nat.reduceAdd, Nat.zero_add, Nat.sub_self, cxN_glob, cxN_exc, Option.map_some, Option.bind_some, K.d, Bool.not_true, Bool.not_false, Option.some.injEq, beq_self_eq_true, Nat.reduceEqDiff, eq_self, Nat.reduceBEq, Bool.or_false, Bool.false_or, Bool.or_true, Bool.true_or, Bool.or_self, Bool.and_self, Bool.and_true, Bool.true_and, Bool.and_false, Bool.false_and, callB_len, callB_repr, callB_all, callB_any, callB_int, callB_tuple, callB_list, callB_isi, callB_min2, isi_non, isi_bl, isi_int, isi_str, isi_tup, isi_lst, isi_dct, len_tup, len_lst, seq_tup, seq_lst, lst_lst, tru_bool, newL_fro, liven_false, cmp_eqI, cmp_neI, cmp_eqS, cmp_neS, cmp_lt, cmp_le, cmp_gt, cmp_ge, cmp_in_tup, cmp_in_lst, cmp_nin_tup, cmp_nin_lst, bin_add, bin_sub, bin_mul, bin_mod, bin_div, bin_addS, bin_addT, bin_addL, meth_count, meth_index, meth_append, meth_popAt, sz_of, Nat.reduceLeDiff, Int.reduceEq, Int.reduceBEq, Int.cast_ofNat_Int, Int.reduceAdd, Int.reduceLT, d_are_ascending, h2, h3, e1, e2]
theorem ok_in {ws : List Str} (h : ws.all PyData.strOk = true) {s : Str} (m : ws.contains s = true) : PyData.strOk s = true := List.all_eq_true.mp h s (by simpa using m)
theorem oneOf_str {ws : List Str} {d : D} (h : oneOf ws d = true) : ∃ s, d = .str s ∧ ws.contains s = true := by
  cases d with
  | str s => exact ⟨s, rfl, h⟩
  | _ => cases h
theorem pairOf_tup {f s : List Str} {d : D} (h : pairOf f s d = true) : ∃ a b, d = .tup [.str a, .str b] ∧ f.contains a = true ∧ s.contains b = true := by
  unfold pairOf at h
  split at h
  · rename_i a b
    rw [Bool.and_eq_true] at h
    obtain ⟨x, rfl, hx⟩ := oneOf_str h.1
    obtain ⟨y, rfl, hy⟩ := oneOf_str h.2
    exact ⟨x, y, rfl, hx, hy⟩
  · cases h
theorem ords_strs {ws : List Str} (hw : ws.all PyData.strOk = true) {xs : List D} (hx : wfDs xs = true) (h : xs.all (oneOf ws) = true) (hl : xs.length < 64) : Ords xs := by
  rw [List.all_eq_true] at h
  rw [wfDs_all, List.all_eq_true] at hx
  refine ⟨hx, fun x m => ?_, fun x m => ?_, fun x m => ?_, fun x m y m2 => ?_, .inr fun x m => ?_, hl⟩
  all_goals obtain ⟨s, rfl, hs⟩ := oneOf_str (h x m)
  · simp only [fitT, okT, ok_in hw hs, depT]; rfl
  · exact Nat.zero_le _
  · rfl
  · obtain ⟨s2, rfl, hs2⟩ := oneOf_str (h y m2)
    simp only [ordT, ok_in hw hs, ok_in hw hs2, Bool.and_self]
  · exact ⟨s, rfl⟩
theorem ords_pairs {f g : List Str} (hf : f.all PyData.strOk = true) (hg : g.all PyData.strOk = true) {xs : List D} (hx : wfDs xs = true) (h : xs.all (pairOf f g) = true) (hl : xs.length < 64) : Ords xs := by
  rw [List.all_eq_true] at h
  rw [wfDs_all, List.all_eq_true] at hx
  refine ⟨hx, fun x m => ?_, fun x m => ?_, fun x m => ?_, fun x m y m2 => ?_, .inl fun x m => ?_, hl⟩
  all_goals obtain ⟨s, t, rfl, hs, ht⟩ := pairOf_tup (h x m)
  · simp only [fitT, okT, okTs, ok_in hf hs, ok_in hg ht, depT, depTs]; rfl
  · show depTs _ + 1 ≤ 8
    simp only [depTs, depT]; decide
  · rfl
  · obtain ⟨s2, t2, rfl, hs2, ht2⟩ := pairOf_tup (h y m2)
    simp only [ordT, ordTs, ok_in hf hs, ok_in hf hs2, ok_in hg ht, ok_in hg ht2, Bool.and_self]
  · exact ⟨_, _, rfl⟩
theorem wf_mem {xs : List D} (h : wfDs xs = true) {x : D} (m : x ∈ xs) : wfD x = true := by
  rw [wfDs_all, List.all_eq_true] at h; exact h x m
theorem run_are_ends (h : LogT T) {d : D} (hd : wfD d = true) (hs : shortD d = true) : Run T (n + 6) "are_ends" [d] S = .ok (.bl (areEnds d)) S := by
  rw [Run_def h.are_ends rfl]
  cases d with
  | tup xs =>
    simp only [wfD] at hd
    simp only [shortD, decide_eq_true_eq] at hs
    have h2 : xs.length ≤ 1000000 := by omega
    have eb : ∀ x ∈ xs, ∀ m, Run T (m + 4) "is_pair_of" [x, .tup (RESULTS.map .str), .tup (REPORTS.map .str)] S = .ok (.bl (pairOf RESULTS REPORTS x)) S := fun x m => fun m' => run_is_pair_of h.is_one_of h.is_pair_of (wf_mem hd m) okR okQ
    simp only [d_are_ends, runD, execs, exec, ev, evs, evAnd, evOr, evIfs, evO, evI, testR, R.bind_ok, R.bind_ex, R.ofO_some, R.ofO_none, rget0, rgetS, asgT, asgTs, lenTs, truD_bl, tru_non, tru_tup, tru_lst, backR_rt, backR_nx, backR_ex, List.length_cons, List.length_nil, List.map_cons, List.map_nil, List.replicate_zero, List.replicate_succ, List.cons_append, List.nil_append, List.append_nil, List.set_cons_zero, List.set_cons_succ, if_true, if_false, Bool.false_eq_true, Bool.true_eq_false, Nat.reduceSub, Nat.reduceAdd, Nat.zero_add, Nat.sub_self, cxN_glob, cxN_exc, Option.map_some, Option.bind_some, K.d, Bool.not_true, Bool.not_false, Option.some.injEq, beq_self_eq_true, Nat.reduceEqDiff, eq_self, Nat.reduceBEq, Bool.or_false, Bool.false_or, Bool.or_true, Bool.true_or, Bool.or_self, Bool.and_self, Bool.and_true, Bool.true_and, Bool.and_false, Bool.false_and, callB_len, callB_repr, callB_all, callB_any, callB_int, callB_tuple, callB_list, callB_isi, callB_min2, isi_non, isi_bl, isi_int, isi_str, isi_tup, isi_lst, isi_dct, len_tup, len_lst, seq_tup, seq_lst, lst_lst, tru_bool, newL_fro, liven_false, cmp_eqI, cmp_neI, cmp_eqS, cmp_neS, cmp_lt, cmp_le, cmp_gt, cmp_ge, cmp_in_tup, cmp_in_lst, cmp_nin_tup, cmp_nin_lst, bin_add, bin_sub, bin_mul, bin_mod, bin_div, bin_addS, bin_addT, bin_addL, meth_count, meth_index, meth_append, meth_popAt, sz_of, Nat.reduceLeDiff, Int.reduceEq, Int.reduceBEq, Int.cast_ofNat_Int, Int.reduceAdd, Int.reduceLT, wipeE, h2]
    rw [compL_map (g := fun x => .bl (pairOf RESULTS REPORTS x)) (fun x hx => by simp only [runD, execs, exec, ev, evs, evAnd, evOr, evIfs, evO, evI, testR, R.bind_ok, R.bind_ex, R.ofO_some, R.ofO_none, rget0, rgetS, asgT, asgTs, lenTs, truD_bl, tru_non, tru_tup, tru_lst, backR_rt, backR_nx, backR_ex, List.length_cons, List.length_nil, List.map_cons, List.map_nil, List.replicate_zero, List.replicate_succ, List.cons_append, List.nil_append, List.append_nil, List.set_cons_zero, List.set_cons_succ, if_true, if_false, Bool.false_eq_true, Bool.true_eq_false, Nat.reduceSub, Nat.reduceAdd, Nat.zero_add, Nat.sub_self, cxN_glob, cxN_exc, Option.map_some, Option.bind_some, K.d, Bool.not_true, Bool.not_false, Option.some.injEq, beq_self_eq_true, Nat.reduceEqDiff, eq_self, Nat.reduceBEq, Bool.or_false, Bool.false_or, Bool.or_true, Bool.true_or, Bool.or_self, Bool.and_self, Bool.and_true, Bool.true_and, Bool.and_false, Bool.false_and, callB_len, callB_repr, callB_all, callB_any, callB_int, callB_tuple, callB_list, callB_isi, callB_min2, isi_non, isi_bl, isi_int, isi_str, isi_tup, isi_lst, isi_dct, len_tup, len_lst, seq_tup, seq_lst, lst_lst, tru_bool, newL_fro, liven_false, cmp_eqI, cmp_neI, cmp_eqS, cmp_neS, cmp_lt, cmp_le, cmp_gt, cmp_ge, cmp_in_tup, cmp_in_lst, cmp_nin_tup, cmp_nin_lst, bin_add, bin_sub, bin_mul, bin_mod, bin_div, bin_addS, bin_addT, bin_addL, meth_count, meth_index, meth_append, meth_popAt, sz_of, Nat.reduceLeDiff, Int.reduceEq, Int.reduceBEq, Int.cast_ofNat_Int, Int.reduceAdd, Int.reduceLT, bindE, h.gR, h.gQ, call_def h.is_pair_of rfl, eb x hx])]
    simp only [runD, execs, exec, ev, evs, evAnd, evOr, evIfs, evO, evI, testR, R.bind_ok, R.bind_ex, R.ofO_some, R.ofO_none, rget0, rgetS, asgT, asgTs, lenTs, truD_bl, tru_non, tru_tup, tru_lst, backR_rt, backR_nx, backR_ex, List.length_cons, List.length_nil, List.map_cons, List.map_nil, List.replicate_zero, List.replicate_succ, List.cons_append, List.nil_append, List.append_nil, List.set_cons_zero, List.set_cons_succ, if_true, if_false, Bool.false_eq_true, Bool.true_eq_false, Nat.reduceSub, Nat.reduceAdd, Nat.zero_add, Nat.sub_self, cxN_glob, cxN_exc, Option.map_some, Option.bind_some, K.d, Bool.not_true, Bool.not_false, Option.some.injEq, beq_self_eq_true, Nat.reduceEqDiff, eq_self, Nat.reduceBEq, Bool.or_false, Bool.false_or, Bool.or_true, Bool.true_or, Bool.or_self, Bool.and_self, Bool.and_true, Bool.true_and, Bool.and_false, Bool.false_and, callB_len, callB_repr, callB_all, callB_any, callB_int, callB_tuple, callB_list, callB_isi, callB_min2, isi_non, isi_bl, isi_int, isi_str, isi_tup, isi_lst, isi_dct, len_tup, len_lst, seq_tup, seq_lst, lst_lst, tru_bool, newL_fro, liven_false, cmp_eqI, cmp_neI, cmp_eqS, cmp_neS, cmp_lt, cmp_le, cmp_gt, cmp_ge, cmp_in_tup, cmp_in_lst, cmp_nin_tup, cmp_nin_lst, bin_add, bin_sub, bin_mul, bin_mod, bin_div, bin_addS, bin_addT, bin_addL, meth_count, meth_index, meth_append, meth_popAt, sz_of, Nat.reduceLeDiff, Int.reduceEq, Int.reduceBEq, Int.cast_ofNat_Int, Int.reduceAdd, Int.reduceLT, List.length_map, h2, boolsOf_map, all_map_id, areEnds]
    cases ha : xs.all (pairOf RESULTS REPORTS) with
    | false => simp only [runD, execs, exec, ev, evs, evAnd, evOr, evIfs, evO, evI, testR, R.bind_ok, R.bind_ex, R.ofO_some, R.ofO_none, rget0, rgetS, asgT, asgTs, lenTs, truD_bl, tru_non, tru_tup, tru_lst, backR_rt, backR_nx, backR_ex, List.length_cons, List.length_nil, List.map_cons, List.map_nil, List.replicate_zero, List.replicate_succ, List.cons_append, List.nil_append, List.append_nil, List.set_cons_zero, List.set_cons_succ, if_true, if_false, Bool.false_eq_true, Bool.true_eq_false, Nat.reduceSub, Nat.reduceAdd, Nat.zero_add, Nat.sub_self, cxN_glob, cxN_exc, Option.map_some, Option.bind_some, K.d, Bool.not_true, Bool.not_false, Option.some.injEq, beq_self_eq_true, Nat.reduceEqDiff, eq_self, Nat.reduceBEq, Bool.or_false, Bool.false_or, Bool.or_true, Bool.true_or, Bool.or_self, Bool.and_self, Bool.and_true, Bool.true_and, Bool.and_false, Bool.false_and, callB_len, callB_repr, callB_all, callB_any, callB_int, callB_tuple, callB_list, callB_isi, callB_min2, isi_non, isi_bl, isi_int, isi_str, isi_tup, isi_lst, isi_dct, len_tup, len_lst, seq_tup, seq_lst, lst_lst, tru_bool, newL_fro, liven_false, cmp_eqI, cmp_neI, cmp_eqS, cmp_neS, cmp_lt, cmp_le, cmp_gt, cmp_ge, cmp_in_tup, cmp_in_lst, cmp_nin_tup, cmp_nin_lst, bin_add, bin_sub, bin_mul, bin_mod, bin_div, bin_addS, bin_addT, bin_addL, meth_count, meth_index, meth_append, meth_popAt, sz_of, Nat.reduceLeDiff, Int.reduceEq, Int.reduceBEq, Int.cast_ofNat_Int, Int.reduceAdd, Int.reduceLT]
    | true => simp only [runD, execs, exec, ev, evs, evAnd, evOr, evIfs, evO, evI, testR, R.bind_ok, R.bind_ex, R.ofO_some, R.ofO_none, rget0, rgetS, asgT, asgTs, lenTs, truD_bl, tru_non, tru_tup, tru_lst, backR_rt, backR_nx, backR_ex, List.length_cons, List.length_nil, List.map_cons, List.map_nil, List.replicate_zero, List.replicate_succ, List.cons_append, List.nil_append, List.append_nil, List.set_cons_zero, List.set_cons_succ, if_true, if_false, Bool.false_eq_true, Bool.true_eq_false, Nat.reduceSub, Nat.reduceAdd, Nat.zero_add, Nat.sub_self, cxN_glob, cxN_exc, Option.map_some, Option.bind_some, K.d, Bool.not_true, Bool.not_false, Option.some.injEq, beq_self_eq_true, Nat.reduceEqDiff, eq_self, Nat.reduceBEq, Bool.or_false, Bool.false_or, Bool.or_true, Bool.true_or, Bool.or_self, Bool.and_self, Bool.and_true, Bool.true_and, Bool.and_false, Bool.false_and, callB_len, callB_repr, callB_all, callB_any, callB_int, callB_tuple, callB_list, callB_isi, callB_min2, isi_non, isi_bl, isi_int, isi_str, isi_tup, isi_lst, isi_dct, len_tup, len_lst, seq_tup, seq_lst, lst_lst, tru_bool, newL_fro, liven_false, cmp_eqI, cmp_neI, cmp_eqS, cmp_neS, cmp_lt, cmp_le, cmp_gt, cmp_ge, cmp_in_tup, cmp_in_lst, cmp_nin_tup, cmp_nin_lst, bin_add, bin_sub, bin_mul, bin_mod, bin_div, bin_addS, bin_addT, bin_addL, meth_count, meth_index, meth_append, meth_popAt, sz_of, Nat.reduceLeDiff, Int.reduceEq, Int.reduceBEq, Int.cast_ofNat_Int, Int.reduceAdd, Int.reduceLT, call_def h.are_ascending rfl, run_are_ascending h.are_ascending (ords_pairs okR okQ hd ha hs)]
  | _ => first | (simp [wfD] at hd; done) | simp only [runD, execs, exec, ev, evs, evAnd, evOr, evIfs, evO, evI, testR, R.bind_ok, R.bind_ex, R.ofO_some, R.ofO_none, rget0, rgetS, asgT, asgTs, lenTs, truD_bl, tru_non, tru_tup, tru_lst, backR_rt, backR_nx, backR_ex, List.length_cons, List.length_nil, List.map_cons, List.map_nil, List.replicate_zero, List.replicate_succ, List.cons_append, List.nil_append, List.append_nil, List.set_cons_zero, List.set_cons_succ, if_true, if_false, Bool.false_eq_true, Bool.true_eq_false, Nat.reduceSub, Nat.reduceAdd, Nat.zero_add, Nat.sub_self, cxN_glob, cxN_exc, Option.map_some, Option.bind_some, K.d, Bool.not_true, Bool.not_false, Option.some.injEq, beq_self_eq_true, Nat.reduceEqDiff, eq_self, Nat.reduceBEq, Bool.or_false, Bool.false_or, Bool.or_true, Bool.true_or, Bool.or_self, Bool.and_self, Bool.and_true, Bool.true_and, Bool.and_false, Bool.false_and, callB_len, callB_repr, callB_all, callB_any, callB_int, callB_tuple, callB_list, callB_isi, callB_min2, isi_non, isi_bl, isi_int, isi_str, isi_tup, isi_lst, isi_dct, len_tup, len_lst, seq_tup, seq_lst, lst_lst, tru_bool, newL_fro, liven_false, cmp_eqI, cmp_neI, cmp_eqS, cmp_neS, cmp_lt, cmp_le, cmp_gt, cmp_ge, cmp_in_tup, cmp_in_lst, cmp_nin_tup, cmp_nin_lst, bin_add, bin_sub, bin_mul, bin_mod, bin_div, bin_addS, bin_addT, bin_addL, meth_count, meth_index, meth_append, meth_popAt, sz_of, Nat.reduceLeDiff, Int.reduceEq, Int.reduceBEq, Int.cast_ofNat_Int, Int.reduceAdd, Int.reduceLT, d_are_ends, areEnds]
theorem run_are_seen (h : LogT T) (h0 : T.defs "are_seen" = some d_are_seen) {d : D} (hd : wfD d = true) (hs : shortD d = true) : Run T (n + 6) "are_seen" [d] S = .ok (.bl (areSeen d)) S := by
  rw [Run_def h0 rfl]
  cases d with
  | tup xs =>
    simp only [wfD] at hd
    simp only [shortD, decide_eq_true_eq] at hs
    have h2 : xs.length ≤ 1000000 := by omega
    have eb : ∀ x ∈ xs, ∀ m, Run T (m + 3) "is_one_of" [x, .tup (PLACES.map .str)] S = .ok (.bl (oneOf PLACES x)) S := fun x m => fun m' => run_is_one_of h.is_one_of (wf_mem hd m) okP
    simp only [d_are_seen, runD, execs, exec, ev, evs, evAnd, evOr, evIfs, evO, evI, testR, R.bind_ok, R.bind_ex, R.ofO_some, R.ofO_none, rget0, rgetS, asgT, asgTs, lenTs, truD_bl, tru_non, tru_tup, tru_lst, backR_rt, backR_nx, backR_ex, List.length_cons, List.length_nil, List.map_cons, List.map_nil, List.replicate_zero, List.replicate_succ, List.cons_append, List.nil_append, List.append_nil, List.set_cons_zero, List.set_cons_succ, if_true, if_false, Bool.false_eq_true, Bool.true_eq_false, Nat.reduceSub, Nat.reduceAdd, Nat.zero_add, Nat.sub_self, cxN_glob, cxN_exc, Option.map_some, Option.bind_some, K.d, Bool.not_true, Bool.not_false, Option.some.injEq, beq_self_eq_true, Nat.reduceEqDiff, eq_self, Nat.reduceBEq, Bool.or_false, Bool.false_or, Bool.or_true, Bool.true_or, Bool.or_self, Bool.and_self, Bool.and_true, Bool.true_and, Bool.and_false, Bool.false_and, callB_len, callB_repr, callB_all, callB_any, callB_int, callB_tuple, callB_list, callB_isi, callB_min2, isi_non, isi_bl, isi_int, isi_str, isi_tup, isi_lst, isi_dct, len_tup, len_lst, seq_tup, seq_lst, lst_lst, tru_bool, newL_fro, liven_false, cmp_eqI, cmp_neI, cmp_eqS, cmp_neS, cmp_lt, cmp_le, cmp_gt, cmp_ge, cmp_in_tup, cmp_in_lst, cmp_nin_tup, cmp_nin_lst, bin_add, bin_sub, bin_mul, bin_mod, bin_div, bin_addS, bin_addT, bin_addL, meth_count, meth_index, meth_append, meth_popAt, sz_of, Nat.reduceLeDiff, Int.reduceEq, Int.reduceBEq, Int.cast_ofNat_Int, Int.reduceAdd, Int.reduceLT, wipeE, h2]
    rw [compL_map (g := fun x => .bl (oneOf PLACES x)) (fun x hx => by simp only [runD, execs, exec, ev, evs, evAnd, evOr, evIfs, evO, evI, testR, R.bind_ok, R.bind_ex, R.ofO_some, R.ofO_none, rget0, rgetS, asgT, asgTs, lenTs, truD_bl, tru_non, tru_tup, tru_lst, backR_rt, backR_nx, backR_ex, List.length_cons, List.length_nil, List.map_cons, List.map_nil, List.replicate_zero, List.replicate_succ, List.cons_append, List.nil_append, List.append_nil, List.set_cons_zero, List.set_cons_succ, if_true, if_false, Bool.false_eq_true, Bool.true_eq_false, Nat.reduceSub, Nat.reduceAdd, Nat.zero_add, Nat.sub_self, cxN_glob, cxN_exc, Option.map_some, Option.bind_some, K.d, Bool.not_true, Bool.not_false, Option.some.injEq, beq_self_eq_true, Nat.reduceEqDiff, eq_self, Nat.reduceBEq, Bool.or_false, Bool.false_or, Bool.or_true, Bool.true_or, Bool.or_self, Bool.and_self, Bool.and_true, Bool.true_and, Bool.and_false, Bool.false_and, callB_len, callB_repr, callB_all, callB_any, callB_int, callB_tuple, callB_list, callB_isi, callB_min2, isi_non, isi_bl, isi_int, isi_str, isi_tup, isi_lst, isi_dct, len_tup, len_lst, seq_tup, seq_lst, lst_lst, tru_bool, newL_fro, liven_false, cmp_eqI, cmp_neI, cmp_eqS, cmp_neS, cmp_lt, cmp_le, cmp_gt, cmp_ge, cmp_in_tup, cmp_in_lst, cmp_nin_tup, cmp_nin_lst, bin_add, bin_sub, bin_mul, bin_mod, bin_div, bin_addS, bin_addT, bin_addL, meth_count, meth_index, meth_append, meth_popAt, sz_of, Nat.reduceLeDiff, Int.reduceEq, Int.reduceBEq, Int.cast_ofNat_Int, Int.reduceAdd, Int.reduceLT, bindE, h.gP, call_def h.is_one_of rfl, eb x hx])]
    simp only [runD, execs, exec, ev, evs, evAnd, evOr, evIfs, evO, evI, testR, R.bind_ok, R.bind_ex, R.ofO_some, R.ofO_none, rget0, rgetS, asgT, asgTs, lenTs, truD_bl, tru_non, tru_tup, tru_lst, backR_rt, backR_nx, backR_ex, List.length_cons, List.length_nil, List.map_cons, List.map_nil, List.replicate_zero, List.replicate_succ, List.cons_append, List.nil_append, List.append_nil, List.set_cons_zero, List.set_cons_succ, if_true, if_false, Bool.false_eq_true, Bool.true_eq_false, Nat.reduceSub, Nat.reduceAdd, Nat.zero_add, Nat.sub_self, cxN_glob, cxN_exc, Option.map_some, Option.bind_some, K.d, Bool.not_true, Bool.not_false, Option.some.injEq, beq_self_eq_true, Nat.reduceEqDiff, eq_self, Nat.reduceBEq, Bool.or_false, Bool.false_or, Bool.or_true, Bool.true_or, Bool.or_self, Bool.and_self, Bool.and_true, Bool.true_and, Bool.and_false, Bool.false_and, callB_len, callB_repr, callB_all, callB_any, callB_int, callB_tuple, callB_list, callB_isi, callB_min2, isi_non, isi_bl, isi_int, isi_str, isi_tup, isi_lst, isi_dct, len_tup, len_lst, seq_tup, seq_lst, lst_lst, tru_bool, newL_fro, liven_false, cmp_eqI, cmp_neI, cmp_eqS, cmp_neS, cmp_lt, cmp_le, cmp_gt, cmp_ge, cmp_in_tup, cmp_in_lst, cmp_nin_tup, cmp_nin_lst, bin_add, bin_sub, bin_mul, bin_mod, bin_div, bin_addS, bin_addT, bin_addL, meth_count, meth_index, meth_append, meth_popAt, sz_of, Nat.reduceLeDiff, Int.reduceEq, Int.reduceBEq, Int.cast_ofNat_Int, Int.reduceAdd, Int.reduceLT, List.length_map, h2, boolsOf_map, all_map_id, areSeen]
    cases ha : xs.all (oneOf PLACES) with
    | false => simp only [runD, execs, exec, ev, evs, evAnd, evOr, evIfs, evO, evI, testR, R.bind_ok, R.bind_ex, R.ofO_some, R.ofO_none, rget0, rgetS, asgT, asgTs, lenTs, truD_bl, tru_non, tru_tup, tru_lst, backR_rt, backR_nx, backR_ex, List.length_cons, List.length_nil, List.map_cons, List.map_nil, List.replicate_zero, List.replicate_succ, List.cons_append, List.nil_append, List.append_nil, List.set_cons_zero, List.set_cons_succ, if_true, if_false, Bool.false_eq_true, Bool.true_eq_false, Nat.reduceSub, Nat.reduceAdd, Nat.zero_add, Nat.sub_self, cxN_glob, cxN_exc, Option.map_some, Option.bind_some, K.d, Bool.not_true, Bool.not_false, Option.some.injEq, beq_self_eq_true, Nat.reduceEqDiff, eq_self, Nat.reduceBEq, Bool.or_false, Bool.false_or, Bool.or_true, Bool.true_or, Bool.or_self, Bool.and_self, Bool.and_true, Bool.true_and, Bool.and_false, Bool.false_and, callB_len, callB_repr, callB_all, callB_any, callB_int, callB_tuple, callB_list, callB_isi, callB_min2, isi_non, isi_bl, isi_int, isi_str, isi_tup, isi_lst, isi_dct, len_tup, len_lst, seq_tup, seq_lst, lst_lst, tru_bool, newL_fro, liven_false, cmp_eqI, cmp_neI, cmp_eqS, cmp_neS, cmp_lt, cmp_le, cmp_gt, cmp_ge, cmp_in_tup, cmp_in_lst, cmp_nin_tup, cmp_nin_lst, bin_add, bin_sub, bin_mul, bin_mod, bin_div, bin_addS, bin_addT, bin_addL, meth_count, meth_index, meth_append, meth_popAt, sz_of, Nat.reduceLeDiff, Int.reduceEq, Int.reduceBEq, Int.cast_ofNat_Int, Int.reduceAdd, Int.reduceLT]
    | true => simp only [runD, execs, exec, ev, evs, evAnd, evOr, evIfs, evO, evI, testR, R.bind_ok, R.bind_ex, R.ofO_some, R.ofO_none, rget0, rgetS, asgT, asgTs, lenTs, truD_bl, tru_non, tru_tup, tru_lst, backR_rt, backR_nx, backR_ex, List.length_cons, List.length_nil, List.map_cons, List.map_nil, List.replicate_zero, List.replicate_succ, List.cons_append, List.nil_append, List.append_nil, List.set_cons_zero, List.set_cons_succ, if_true, if_false, Bool.false_eq_true, Bool.true_eq_false, Nat.reduceSub, Nat.reduceAdd, Nat.zero_add, Nat.sub_self, cxN_glob, cxN_exc, Option.map_some, Option.bind_some, K.d, Bool.not_true, Bool.not_false, Option.some.injEq, beq_self_eq_true, Nat.reduceEqDiff, eq_self, Nat.reduceBEq, Bool.or_false, Bool.false_or, Bool.or_true, Bool.true_or, Bool.or_self, Bool.and_self, Bool.and_true, Bool.true_and, Bool.and_false, Bool.false_and, callB_len, callB_repr, callB_all, callB_any, callB_int, callB_tuple, callB_list, callB_isi, callB_min2, isi_non, isi_bl, isi_int, isi_str, isi_tup, isi_lst, isi_dct, len_tup, len_lst, seq_tup, seq_lst, lst_lst, tru_bool, newL_fro, liven_false, cmp_eqI, cmp_neI, cmp_eqS, cmp_neS, cmp_lt, cmp_le, cmp_gt, cmp_ge, cmp_in_tup, cmp_in_lst, cmp_nin_tup, cmp_nin_lst, bin_add, bin_sub, bin_mul, bin_mod, bin_div, bin_addS, bin_addT, bin_addL, meth_count, meth_index, meth_append, meth_popAt, sz_of, Nat.reduceLeDiff, Int.reduceEq, Int.reduceBEq, Int.cast_ofNat_Int, Int.reduceAdd, Int.reduceLT, call_def h.are_ascending rfl, run_are_ascending h.are_ascending (ords_strs okP hd ha hs)]
  | _ => first | (simp [wfD] at hd; done) | simp only [runD, execs, exec, ev, evs, evAnd, evOr, evIfs, evO, evI, testR, R.bind_ok, R.bind_ex, R.ofO_some, R.ofO_none, rget0, rgetS, asgT, asgTs, lenTs, truD_bl, tru_non, tru_tup, tru_lst, backR_rt, backR_nx, backR_ex, List.length_cons, List.length_nil, List.map_cons, List.map_nil, List.replicate_zero, List.replicate_succ, List.cons_append, List.nil_append, List.append_nil, List.set_cons_zero, List.set_cons_succ, if_true, if_false, Bool.false_eq_true, Bool.true_eq_false, Nat.reduceSub, Nat.reduceAdd, Nat.zero_add, Nat.sub_self, cxN_glob, cxN_exc, Option.map_some, Option.bind_some, K.d, Bool.not_true, Bool.not_false, Option.some.injEq, beq_self_eq_true, Nat.reduceEqDiff, eq_self, Nat.reduceBEq, Bool.or_false, Bool.false_or, Bool.or_true, Bool.true_or, Bool.or_self, Bool.and_self, Bool.and_true, Bool.true_and, Bool.and_false, Bool.false_and, callB_len, callB_repr, callB_all, callB_any, callB_int, callB_tuple, callB_list, callB_isi, callB_min2, isi_non, isi_bl, isi_int, isi_str, isi_tup, isi_lst, isi_dct, len_tup, len_lst, seq_tup, seq_lst, lst_lst, tru_bool, newL_fro, liven_false, cmp_eqI, cmp_neI, cmp_eqS, cmp_neS, cmp_lt, cmp_le, cmp_gt, cmp_ge, cmp_in_tup, cmp_in_lst, cmp_nin_tup, cmp_nin_lst, bin_add, bin_sub, bin_mul, bin_mod, bin_div, bin_addS, bin_addT, bin_addL, meth_count, meth_index, meth_append, meth_popAt, sz_of, Nat.reduceLeDiff, Int.reduceEq, Int.reduceBEq, Int.cast_ofNat_Int, Int.reduceAdd, Int.reduceLT, d_are_seen, areSeen]
/-- a log's lists are short -/
def shortL : D → Bool
  | .tup [_, _, e, _, v] => shortD e && shortD v
  | _ => true
theorem run_is_log (h : CellT T) (h0 : T.defs "are_seen" = some d_are_seen) (h1 : T.defs "is_log" = some d_is_log) {d : D} (hd : wfD d = true) (hs : shortL d = true) : Run T (n + 8) "is_log" [d] S = .ok (.bl (isLog d)) S := by
  rw [Run_def h1 rfl]
  cases d with
  | tup xs =>
    simp only [wfD] at hd
    match xs, hd, hs with
    | [], hd, hs => simp only [runD, execs, exec, ev, evs, evAnd, evOr, evIfs, evO, evI, testR, R.bind_ok, R.bind_ex, R.ofO_some, R.ofO_none, rget0, rgetS, asgT, asgTs, lenTs, truD_bl, tru_non, tru_tup, tru_lst, backR_rt, backR_nx, backR_ex, List.length_cons, List.length_nil, List.map_cons, List.map_nil, List.replicate_zero, List.replicate_succ, List.cons_append, List.nil_append, List.append_nil, List.set_cons_zero, List.set_cons_succ, if_true, if_false, Bool.false_eq_true, Bool.true_eq_false, Nat.reduceSub, Nat.reduceAdd, Nat.zero_add, Nat.sub_self, cxN_glob, cxN_exc, Option.map_some, Option.bind_some, K.d, Bool.not_true, Bool.not_false, Option.some.injEq, beq_self_eq_true, Nat.reduceEqDiff, eq_self, Nat.reduceBEq, Bool.or_false, Bool.false_or, Bool.or_true, Bool.true_or, Bool.or_self, Bool.and_self, Bool.and_true, Bool.true_and, Bool.and_false, Bool.false_and, callB_len, callB_repr, callB_all, callB_any, callB_int, callB_tuple, callB_list, callB_isi, callB_min2, isi_non, isi_bl, isi_int, isi_str, isi_tup, isi_lst, isi_dct, len_tup, len_lst, seq_tup, seq_lst, lst_lst, tru_bool, newL_fro, liven_false, cmp_eqI, cmp_neI, cmp_eqS, cmp_neS, cmp_lt, cmp_le, cmp_gt, cmp_ge, cmp_in_tup, cmp_in_lst, cmp_nin_tup, cmp_nin_lst, bin_add, bin_sub, bin_mul, bin_mod, bin_div, bin_addS, bin_addT, bin_addL, meth_count, meth_index, meth_append, meth_popAt, sz_of, Nat.reduceLeDiff, Int.reduceEq, Int.reduceBEq, Int.cast_ofNat_Int, Int.reduceAdd, Int.reduceLT, d_is_log, isLog]
    | [a], hd, hs => simp only [runD, execs, exec, ev, evs, evAnd, evOr, evIfs, evO, evI, testR, R.bind_ok, R.bind_ex, R.ofO_some, R.ofO_none, rget0, rgetS, asgT, asgTs, lenTs, truD_bl, tru_non, tru_tup, tru_lst, backR_rt, backR_nx, backR_ex, List.length_cons, List.length_nil, List.map_cons, List.map_nil, List.replicate_zero, List.replicate_succ, List.cons_append, List.nil_append, List.append_nil, List.set_cons_zero, List.set_cons_succ, if_true, if_false, Bool.false_eq_true, Bool.true_eq_false, Nat.reduceSub, Nat.reduceAdd, Nat.zero_add, Nat.sub_self, cxN_glob, cxN_exc, Option.map_some, Option.bind_some, K.d, Bool.not_true, Bool.not_false, Option.some.injEq, beq_self_eq_true, Nat.reduceEqDiff, eq_self, Nat.reduceBEq, Bool.or_false, Bool.false_or, Bool.or_true, Bool.true_or, Bool.or_self, Bool.and_self, Bool.and_true, Bool.true_and, Bool.and_false, Bool.false_and, callB_len, callB_repr, callB_all, callB_any, callB_int, callB_tuple, callB_list, callB_isi, callB_min2, isi_non, isi_bl, isi_int, isi_str, isi_tup, isi_lst, isi_dct, len_tup, len_lst, seq_tup, seq_lst, lst_lst, tru_bool, newL_fro, liven_false, cmp_eqI, cmp_neI, cmp_eqS, cmp_neS, cmp_lt, cmp_le, cmp_gt, cmp_ge, cmp_in_tup, cmp_in_lst, cmp_nin_tup, cmp_nin_lst, bin_add, bin_sub, bin_mul, bin_mod, bin_div, bin_addS, bin_addT, bin_addL, meth_count, meth_index, meth_append, meth_popAt, sz_of, Nat.reduceLeDiff, Int.reduceEq, Int.reduceBEq, Int.cast_ofNat_Int, Int.reduceAdd, Int.reduceLT, d_is_log, isLog]
    | [a, b], hd, hs => simp only [runD, execs, exec, ev, evs, evAnd, evOr, evIfs, evO, evI, testR, R.bind_ok, R.bind_ex, R.ofO_some, R.ofO_none, rget0, rgetS, asgT, asgTs, lenTs, truD_bl, tru_non, tru_tup, tru_lst, backR_rt, backR_nx, backR_ex, List.length_cons, List.length_nil, List.map_cons, List.map_nil, List.replicate_zero, List.replicate_succ, List.cons_append, List.nil_append, List.append_nil, List.set_cons_zero, List.set_cons_succ, if_true, if_false, Bool.false_eq_true, Bool.true_eq_false, Nat.reduceSub, Nat.reduceAdd, Nat.zero_add, Nat.sub_self, cxN_glob, cxN_exc, Option.map_some, Option.bind_some, K.d, Bool.not_true, Bool.not_false, Option.some.injEq, beq_self_eq_true, Nat.reduceEqDiff, eq_self, Nat.reduceBEq, Bool.or_false, Bool.false_or, Bool.or_true, Bool.true_or, Bool.or_self, Bool.and_self, Bool.and_true, Bool.true_and, Bool.and_false, Bool.false_and, callB_len, callB_repr, callB_all, callB_any, callB_int, callB_tuple, callB_list, callB_isi, callB_min2, isi_non, isi_bl, isi_int, isi_str, isi_tup, isi_lst, isi_dct, len_tup, len_lst, seq_tup, seq_lst, lst_lst, tru_bool, newL_fro, liven_false, cmp_eqI, cmp_neI, cmp_eqS, cmp_neS, cmp_lt, cmp_le, cmp_gt, cmp_ge, cmp_in_tup, cmp_in_lst, cmp_nin_tup, cmp_nin_lst, bin_add, bin_sub, bin_mul, bin_mod, bin_div, bin_addS, bin_addT, bin_addL, meth_count, meth_index, meth_append, meth_popAt, sz_of, Nat.reduceLeDiff, Int.reduceEq, Int.reduceBEq, Int.cast_ofNat_Int, Int.reduceAdd, Int.reduceLT, d_is_log, isLog]
    | [a, b, c], hd, hs => simp only [runD, execs, exec, ev, evs, evAnd, evOr, evIfs, evO, evI, testR, R.bind_ok, R.bind_ex, R.ofO_some, R.ofO_none, rget0, rgetS, asgT, asgTs, lenTs, truD_bl, tru_non, tru_tup, tru_lst, backR_rt, backR_nx, backR_ex, List.length_cons, List.length_nil, List.map_cons, List.map_nil, List.replicate_zero, List.replicate_succ, List.cons_append, List.nil_append, List.append_nil, List.set_cons_zero, List.set_cons_succ, if_true, if_false, Bool.false_eq_true, Bool.true_eq_false, Nat.reduceSub, Nat.reduceAdd, Nat.zero_add, Nat.sub_self, cxN_glob, cxN_exc, Option.map_some, Option.bind_some, K.d, Bool.not_true, Bool.not_false, Option.some.injEq, beq_self_eq_true, Nat.reduceEqDiff, eq_self, Nat.reduceBEq, Bool.or_false, Bool.false_or, Bool.or_true, Bool.true_or, Bool.or_self, Bool.and_self, Bool.and_true, Bool.true_and, Bool.and_false, Bool.false_and, callB_len, callB_repr, callB_all, callB_any, callB_int, callB_tuple, callB_list, callB_isi, callB_min2, isi_non, isi_bl, isi_int, isi_str, isi_tup, isi_lst, isi_dct, len_tup, len_lst, seq_tup, seq_lst, lst_lst, tru_bool, newL_fro, liven_false, cmp_eqI, cmp_neI, cmp_eqS, cmp_neS, cmp_lt, cmp_le, cmp_gt, cmp_ge, cmp_in_tup, cmp_in_lst, cmp_nin_tup, cmp_nin_lst, bin_add, bin_sub, bin_mul, bin_mod, bin_div, bin_addS, bin_addT, bin_addL, meth_count, meth_index, meth_append, meth_popAt, sz_of, Nat.reduceLeDiff, Int.reduceEq, Int.reduceBEq, Int.cast_ofNat_Int, Int.reduceAdd, Int.reduceLT, d_is_log, isLog]
    | [w, a, b, c], hd, hs => simp only [runD, execs, exec, ev, evs, evAnd, evOr, evIfs, evO, evI, testR, R.bind_ok, R.bind_ex, R.ofO_some, R.ofO_none, rget0, rgetS, asgT, asgTs, lenTs, truD_bl, tru_non, tru_tup, tru_lst, backR_rt, backR_nx, backR_ex, List.length_cons, List.length_nil, List.map_cons, List.map_nil, List.replicate_zero, List.replicate_succ, List.cons_append, List.nil_append, List.append_nil, List.set_cons_zero, List.set_cons_succ, if_true, if_false, Bool.false_eq_true, Bool.true_eq_false, Nat.reduceSub, Nat.reduceAdd, Nat.zero_add, Nat.sub_self, cxN_glob, cxN_exc, Option.map_some, Option.bind_some, K.d, Bool.not_true, Bool.not_false, Option.some.injEq, beq_self_eq_true, Nat.reduceEqDiff, eq_self, Nat.reduceBEq, Bool.or_false, Bool.false_or, Bool.or_true, Bool.true_or, Bool.or_self, Bool.and_self, Bool.and_true, Bool.true_and, Bool.and_false, Bool.false_and, callB_len, callB_repr, callB_all, callB_any, callB_int, callB_tuple, callB_list, callB_isi, callB_min2, isi_non, isi_bl, isi_int, isi_str, isi_tup, isi_lst, isi_dct, len_tup, len_lst, seq_tup, seq_lst, lst_lst, tru_bool, newL_fro, liven_false, cmp_eqI, cmp_neI, cmp_eqS, cmp_neS, cmp_lt, cmp_le, cmp_gt, cmp_ge, cmp_in_tup, cmp_in_lst, cmp_nin_tup, cmp_nin_lst, bin_add, bin_sub, bin_mul, bin_mod, bin_div, bin_addS, bin_addT, bin_addL, meth_count, meth_index, meth_append, meth_popAt, sz_of, Nat.reduceLeDiff, Int.reduceEq, Int.reduceBEq, Int.cast_ofNat_Int, Int.reduceAdd, Int.reduceLT, d_is_log, isLog]
    | [t, l, e, b, v], hd, hs =>
      simp only [wfDs, Bool.and_eq_true] at hd
      simp only [shortL, Bool.and_eq_true] at hs
      have s1 : subD S (.tup [t, l, e, b, v]) (.int 1) = some l := subN (i := 1) rfl
      have s2 : subD S (.tup [t, l, e, b, v]) (.int 2) = some e := subN (i := 2) rfl
      have s3 : subD S (.tup [t, l, e, b, v]) (.int 3) = some b := subN (i := 3) rfl
      have s4 : subD S (.tup [t, l, e, b, v]) (.int 4) = some v := subN (i := 4) rfl
      have eb : isiD S 1 b = some (isBl b) := by
        have := hd.2.2.2.1
        cases b <;> first | rfl | (simp [wfD] at this; done)
      simp only [runD, execs, exec, ev, evs, evAnd, evOr, evIfs, evO, evI, testR, R.bind_ok, R.bind_ex, R.ofO_some, R.ofO_none, rget0, rgetS, asgT, asgTs, lenTs, truD_bl, tru_non, tru_tup, tru_lst, backR_rt, backR_nx, backR_ex, List.length_cons, List.length_nil, List.map_cons, List.map_nil, List.replicate_zero, List.replicate_succ, List.cons_append, List.nil_append, List.append_nil, List.set_cons_zero, List.set_cons_succ, if_true, if_false, Bool.false_eq_true, Bool.true_eq_false, Nat.reduceSub, Nat.reduceAdd, Nat.zero_add, Nat.sub_self, cxN_glob, cxN_exc, Option.map_some, Option.bind_some, K.d, Bool.not_true, Bool.not_false, Option.some.injEq, beq_self_eq_true, Nat.reduceEqDiff, eq_self, Nat.reduceBEq, Bool.or_false, Bool.false_or, Bool.or_true, Bool.true_or, Bool.or_self, Bool.and_self, Bool.and_true, Bool.true_and, Bool.and_false, Bool.false_and, callB_len, callB_repr, callB_all, callB_any, callB_int, callB_tuple, callB_list, callB_isi, callB_min2, isi_non, isi_bl, isi_int, isi_str, isi_tup, isi_lst, isi_dct, len_tup, len_lst, seq_tup, seq_lst, lst_lst, tru_bool, newL_fro, liven_false, cmp_eqI, cmp_neI, cmp_eqS, cmp_neS, cmp_lt, cmp_le, cmp_gt, cmp_ge, cmp_in_tup, cmp_in_lst, cmp_nin_tup, cmp_nin_lst, bin_add, bin_sub, bin_mul, bin_mod, bin_div, bin_addS, bin_addT, bin_addL, meth_count, meth_index, meth_append, meth_popAt, sz_of, Nat.reduceLeDiff, Int.reduceEq, Int.reduceBEq, Int.cast_ofNat_Int, Int.reduceAdd, Int.reduceLT, d_is_log, h.gL, sub0, s1, s2, s3, s4, eb, call_def h.is_table rfl, run_is_table h hd.1, call_def h.is_pair_of rfl, run_is_pair_of h.is_one_of h.is_pair_of hd.2.1 okL okL, call_def h.are_ends rfl, run_are_ends h.toLogT hd.2.2.1 hs.1,
        call_def h0 rfl, run_are_seen h.toLogT h0 hd.2.2.2.2.1 hs.2, isLog]
      cases isTable t <;> simp only [runD, execs, exec, ev, evs, evAnd, evOr, evIfs, evO, evI, testR, R.bind_ok, R.bind_ex, R.ofO_some, R.ofO_none, rget0, rgetS, asgT, asgTs, lenTs, truD_bl, tru_non, tru_tup, tru_lst, backR_rt, backR_nx, backR_ex, List.length_cons, List.length_nil, List.map_cons, List.map_nil, List.replicate_zero, List.replicate_succ, List.cons_append, List.nil_append, List.append_nil, List.set_cons_zero, List.set_cons_succ, if_true, if_false, Bool.false_eq_true, Bool.true_eq_false, Nat.reduceSub, Nat.reduceAdd, Nat.zero_add, Nat.sub_self, cxN_glob, cxN_exc, Option.map_some, Option.bind_some, K.d, Bool.not_true, Bool.not_false, Option.some.injEq, beq_self_eq_true, Nat.reduceEqDiff, eq_self, Nat.reduceBEq, Bool.or_false, Bool.false_or, Bool.or_true, Bool.true_or, Bool.or_self, Bool.and_self, Bool.and_true, Bool.true_and, Bool.and_false, Bool.false_and, callB_len, callB_repr, callB_all, callB_any, callB_int, callB_tuple, callB_list, callB_isi, callB_min2, isi_non, isi_bl, isi_int, isi_str, isi_tup, isi_lst, isi_dct, len_tup, len_lst, seq_tup, seq_lst, lst_lst, tru_bool, newL_fro, liven_false, cmp_eqI, cmp_neI, cmp_eqS, cmp_neS, cmp_lt, cmp_le, cmp_gt, cmp_ge, cmp_in_tup, cmp_in_lst, cmp_nin_tup, cmp_nin_lst, bin_add, bin_sub, bin_mul, bin_mod, bin_div, bin_addS, bin_addT, bin_addL, meth_count, meth_index, meth_append, meth_popAt, sz_of, Nat.reduceLeDiff, Int.reduceEq, Int.reduceBEq, Int.cast_ofNat_Int, Int.reduceAdd, Int.reduceLT]
      cases pairOf LEADS LEADS l <;> simp only [runD, execs, exec, ev, evs, evAnd, evOr, evIfs, evO, evI, testR, R.bind_ok, R.bind_ex, R.ofO_some, R.ofO_none, rget0, rgetS, asgT, asgTs, lenTs, truD_bl, tru_non, tru_tup, tru_lst, backR_rt, backR_nx, backR_ex, List.length_cons, List.length_nil, List.map_cons, List.map_nil, List.replicate_zero, List.replicate_succ, List.cons_append, List.nil_append, List.append_nil, List.set_cons_zero, List.set_cons_succ, if_true, if_false, Bool.false_eq_true, Bool.true_eq_false, Nat.reduceSub, Nat.reduceAdd, Nat.zero_add, Nat.sub_self, cxN_glob, cxN_exc, Option.map_some, Option.bind_some, K.d, Bool.not_true, Bool.not_false, Option.some.injEq, beq_self_eq_true, Nat.reduceEqDiff, eq_self, Nat.reduceBEq, Bool.or_false, Bool.false_or, Bool.or_true, Bool.true_or, Bool.or_self, Bool.and_self, Bool.and_true, Bool.true_and, Bool.and_false, Bool.false_and, callB_len, callB_repr, callB_all, callB_any, callB_int, callB_tuple, callB_list, callB_isi, callB_min2, isi_non, isi_bl, isi_int, isi_str, isi_tup, isi_lst, isi_dct, len_tup, len_lst, seq_tup, seq_lst, lst_lst, tru_bool, newL_fro, liven_false, cmp_eqI, cmp_neI, cmp_eqS, cmp_neS, cmp_lt, cmp_le, cmp_gt, cmp_ge, cmp_in_tup, cmp_in_lst, cmp_nin_tup, cmp_nin_lst, bin_add, bin_sub, bin_mul, bin_mod, bin_div, bin_addS, bin_addT, bin_addL, meth_count, meth_index, meth_append, meth_popAt, sz_of, Nat.reduceLeDiff, Int.reduceEq, Int.reduceBEq, Int.cast_ofNat_Int, Int.reduceAdd, Int.reduceLT]
      cases areEnds e <;> simp only [runD, execs, exec, ev, evs, evAnd, evOr, evIfs, evO, evI, testR, R.bind_ok, R.bind_ex, R.ofO_some, R.ofO_none, rget0, rgetS, asgT, asgTs, lenTs, truD_bl, tru_non, tru_tup, tru_lst, backR_rt, backR_nx, backR_ex, List.length_cons, List.length_nil, List.map_cons, List.map_nil, List.replicate_zero, List.replicate_succ, List.cons_append, List.nil_append, List.append_nil, List.set_cons_zero, List.set_cons_succ, if_true, if_false, Bool.false_eq_true, Bool.true_eq_false, Nat.reduceSub, Nat.reduceAdd, Nat.zero_add, Nat.sub_self, cxN_glob, cxN_exc, Option.map_some, Option.bind_some, K.d, Bool.not_true, Bool.not_false, Option.some.injEq, beq_self_eq_true, Nat.reduceEqDiff, eq_self, Nat.reduceBEq, Bool.or_false, Bool.false_or, Bool.or_true, Bool.true_or, Bool.or_self, Bool.and_self, Bool.and_true, Bool.true_and, Bool.and_false, Bool.false_and, callB_len, callB_repr, callB_all, callB_any, callB_int, callB_tuple, callB_list, callB_isi, callB_min2, isi_non, isi_bl, isi_int, isi_str, isi_tup, isi_lst, isi_dct, len_tup, len_lst, seq_tup, seq_lst, lst_lst, tru_bool, newL_fro, liven_false, cmp_eqI, cmp_neI, cmp_eqS, cmp_neS, cmp_lt, cmp_le, cmp_gt, cmp_ge, cmp_in_tup, cmp_in_lst, cmp_nin_tup, cmp_nin_lst, bin_add, bin_sub, bin_mul, bin_mod, bin_div, bin_addS, bin_addT, bin_addL, meth_count, meth_index, meth_append, meth_popAt, sz_of, Nat.reduceLeDiff, Int.reduceEq, Int.reduceBEq, Int.cast_ofNat_Int, Int.reduceAdd, Int.reduceLT]
      cases hb : isBl b <;> simp only [runD, execs, exec, ev, evs, evAnd, evOr, evIfs, evO, evI, testR, R.bind_ok, R.bind_ex, R.ofO_some, R.ofO_none, rget0, rgetS, asgT, asgTs, lenTs, truD_bl, tru_non, tru_tup, tru_lst, backR_rt, backR_nx, backR_ex, List.length_cons, List.length_nil, List.map_cons, List.map_nil, List.replicate_zero, List.replicate_succ, List.cons_append, List.nil_append, List.append_nil, List.set_cons_zero, List.set_cons_succ, if_true, if_false, Bool.false_eq_true, Bool.true_eq_false, Nat.reduceSub, Nat.reduceAdd, Nat.zero_add, Nat.sub_self, cxN_glob, cxN_exc, Option.map_some, Option.bind_some, K.d, Bool.not_true, Bool.not_false, Option.some.injEq, beq_self_eq_true, Nat.reduceEqDiff, eq_self, Nat.reduceBEq, Bool.or_false, Bool.false_or, Bool.or_true, Bool.true_or, Bool.or_self, Bool.and_self, Bool.and_true, Bool.true_and, Bool.and_false, Bool.false_and, callB_len, callB_repr, callB_all, callB_any, callB_int, callB_tuple, callB_list, callB_isi, callB_min2, isi_non, isi_bl, isi_int, isi_str, isi_tup, isi_lst, isi_dct, len_tup, len_lst, seq_tup, seq_lst, lst_lst, tru_bool, newL_fro, liven_false, cmp_eqI, cmp_neI, cmp_eqS, cmp_neS, cmp_lt, cmp_le, cmp_gt, cmp_ge, cmp_in_tup, cmp_in_lst, cmp_nin_tup, cmp_nin_lst, bin_add, bin_sub, bin_mul, bin_mod, bin_div, bin_addS, bin_addT, bin_addL, meth_count, meth_index, meth_append, meth_popAt, sz_of, Nat.reduceLeDiff, Int.reduceEq, Int.reduceBEq, Int.cast_ofNat_Int, Int.reduceAdd, Int.reduceLT, s3, s4, eb, hb, call_def h0 rfl, run_are_seen h.toLogT h0 hd.2.2.2.2.1 hs.2]
    | a :: b :: c :: e :: f :: g :: r, hd, hs =>
      have : (((r.length + 1 + 1 + 1 + 1 + 1 + 1 : Nat) : Int) == 5) = false := by
        rw [beq_eq_false_iff_ne]; omega
      simp only [runD, execs, exec, ev, evs, evAnd, evOr, evIfs, evO, evI, testR, R.bind_ok, R.bind_ex, R.ofO_some, R.ofO_none, rget0, rgetS, asgT, asgTs, lenTs, truD_bl, tru_non, tru_tup, tru_lst, backR_rt, backR_nx, backR_ex, List.length_cons, List.length_nil, List.map_cons, List.map_nil, List.replicate_zero, List.replicate_succ, List.cons_append, List.nil_append, List.append_nil, List.set_cons_zero, List.set_cons_succ, if_true, if_false, Bool.false_eq_true, Bool.true_eq_false, Nat.reduceSub, Nat.reduceAdd, Nat.zero_add, Nat.sub_self, cxN_glob, cxN_exc, Option.map_some, Option.bind_some, K.d, Bool.not_true, Bool.not_false, Option.some.injEq, beq_self_eq_true, Nat.reduceEqDiff, eq_self, Nat.reduceBEq, Bool.or_false, Bool.false_or, Bool.or_true, Bool.true_or, Bool.or_self, Bool.and_self, Bool.and_true, Bool.true_and, Bool.and_false, Bool.false_and, callB_len, callB_repr, callB_all, callB_any, callB_int, callB_tuple, callB_list, callB_isi, callB_min2, isi_non, isi_bl, isi_int, isi_str, isi_tup, isi_lst, isi_dct, len_tup, len_lst, seq_tup, seq_lst, lst_lst, tru_bool, newL_fro, liven_false, cmp_eqI, cmp_neI, cmp_eqS, cmp_neS, cmp_lt, cmp_le, cmp_gt, cmp_ge, cmp_in_tup, cmp_in_lst, cmp_nin_tup, cmp_nin_lst, bin_add, bin_sub, bin_mul, bin_mod, bin_div, bin_addS, bin_addT, bin_addL, meth_count, meth_index, meth_append, meth_popAt, sz_of, Nat.reduceLeDiff, Int.reduceEq, Int.reduceBEq, Int.cast_ofNat_Int, Int.reduceAdd, Int.reduceLT, d_is_log, isLog, this]
  | _ => first | (simp [wfD] at hd; done) | simp only [runD, execs, exec, ev, evs, evAnd, evOr, evIfs, evO, evI, testR, R.bind_ok, R.bind_ex, R.ofO_some, R.ofO_none, rget0, rgetS, asgT, asgTs, lenTs, truD_bl, tru_non, tru_tup, tru_lst, backR_rt, backR_nx, backR_ex, List.length_cons, List.length_nil, List.map_cons, List.map_nil, List.replicate_zero, List.replicate_succ, List.cons_append, List.nil_append, List.append_nil, List.set_cons_zero, List.set_cons_succ, if_true, if_false, Bool.false_eq_true, Bool.true_eq_false, Nat.reduceSub, Nat.reduceAdd, Nat.zero_add, Nat.sub_self, cxN_glob, cxN_exc, Option.map_some, Option.bind_some, K.d, Bool.not_true, Bool.not_false, Option.some.injEq, beq_self_eq_true, Nat.reduceEqDiff, eq_self, Nat.reduceBEq, Bool.or_false, Bool.false_or, Bool.or_true, Bool.true_or, Bool.or_self, Bool.and_self, Bool.and_true, Bool.true_and, Bool.and_false, Bool.false_and, callB_len, callB_repr, callB_all, callB_any, callB_int, callB_tuple, callB_list, callB_isi, callB_min2, isi_non, isi_bl, isi_int, isi_str, isi_tup, isi_lst, isi_dct, len_tup, len_lst, seq_tup, seq_lst, lst_lst, tru_bool, newL_fro, liven_false, cmp_eqI, cmp_neI, cmp_eqS, cmp_neS, cmp_lt, cmp_le, cmp_gt, cmp_ge, cmp_in_tup, cmp_in_lst, cmp_nin_tup, cmp_nin_lst, bin_add, bin_sub, bin_mul, bin_mod, bin_div, bin_addS, bin_addT, bin_addL, meth_count, meth_index, meth_append, meth_popAt, sz_of, Nat.reduceLeDiff, Int.reduceEq, Int.reduceBEq, Int.cast_ofNat_Int, Int.reduceAdd, Int.reduceLT, d_is_log, isLog]
end
end FT
end

section
set_option Elab.async false
set_option linter.all false
set_option maxRecDepth 100000
set_option autoImplicit false
/-! FT.PLf: the pen. -/
namespace FT
open PySem
def d__law_pen : Def := { ps := 1, n := 1, N := ["script"], keep := true, lam := false, lm := false, body := (.cons (.ret (.lst true (.cons (.callB .list false (.cons (.slice false (.var 0) .non (.som (.k (.int 60)))) .nil)) (.cons (.k (.int 0)) (.cons (.k (.int 0)) .nil))))) .nil) }
def d__law_next : Def := { ps := 1, n := 6, N := ["pen", "index", "cell_here", "some", "more", "high"], keep := false, lam := false, lm := false, body := (.cons (.asg (.var 1) (.sub (.var 0) (.k (.int 1)))) (.cons (.asg (.sub (.var 0) (.k (.int 1))) (.bin false .Add (.var 1) (.k (.int 1)))) (.cons (.asg (.var 2) (.bin false .Add (.bin false .Mult (.var 1) (.k (.int 1051))) (.k (.int 53)))) (.cons (.ife (.cmp .NotEq (.sub (.var 0) (.k (.int 0))) (.lst false .nil)) (.cons (.asg (.var 2) (.sub (.sub (.var 0) (.k (.int 0))) (.bin false .Mod (.callB .int false (.cons (.var 1) .nil)) (.callB .len false (.cons (.sub (.var 0) (.k (.int 0))) .nil))))) .nil) .nil) (.cons (.ife (.and (.cons (.cmp .Lt (.var 1) (.callB .len false (.cons (.sub (.var 0) (.k (.int 0))) .nil))) (.cons (.cmp .GtE (.var 2) (.bin false .Pow (.k (.int 10)) (.k (.int 18)))) .nil))) (.cons (.ret (.var 2)) .nil) .nil) (.cons (.asg (.var 3) (.bin false .Mod (.callB .int false (.cons (.bin false .Add (.bin false .Add (.bin false .Mod (.callB .int false (.cons (.var 2) .nil)) (.k (.int 2147483587))) (.bin false .Mult (.var 1) (.k (.int 30103)))) (.k (.int 79))) .nil)) (.k (.int 2147483587)))) (.cons (.asg (.var 4) (.bin false .Mod (.callB .int false (.cons (.bin false .Add (.bin false .Add (.bin false .Mult (.var 3) (.var 3)) (.bin false .Mult (.var 1) (.k (.int 70039)))) (.k (.int 61))) .nil)) (.k (.int 2147483563)))) (.cons (.asg (.var 5) (.bin false .Mod (.callB .int false (.cons (.bin false .Add (.bin false .Add (.bin false .Mult (.var 4) (.var 4)) (.var 3)) (.bin false .Mult (.bin false .Mult (.var 1) (.var 1)) (.k (.int 37)))) .nil)) (.k (.int 2147483549)))) (.cons (.ret (.bin false .Add (.bin false .Mult (.bin false .Add (.bin false .Mult (.var 5) (.k (.int 2147483587))) (.var 4)) (.k (.int 2147483563))) (.var 3))) .nil))))))))) }
def d__law_draw : Def := { ps := 2, n := 3, N := ["pen", "under", "digit"], keep := false, lam := false, lm := false, body := (.cons (.ife (.cmp .Lt (.sub (.var 0) (.k (.int 2))) (.var 1)) (.cons (.asg (.sub (.var 0) (.k (.int 2))) (.call "_law_next" (.cons (.var 0) .nil))) .nil) .nil) (.cons (.asg (.var 2) (.bin false .Mod (.callB .int false (.cons (.sub (.var 0) (.k (.int 2))) .nil)) (.var 1))) (.cons (.asg (.sub (.var 0) (.k (.int 2))) (.bin false .FloorDiv (.sub (.var 0) (.k (.int 2))) (.var 1))) (.cons (.ret (.var 2)) .nil)))) }
def d__law_some : Def := { ps := 3, n := 5, N := ["pen", "pool", "most", "rest", "lap"], keep := false, lam := false, lm := false, body := (.cons (.asg (.var 3) (.callB .list true (.cons (.var 1) .nil))) (.cons (.ret (.comp false (.meth .popAt (.var 3) (.cons (.call "_law_draw" (.cons (.var 0) (.cons (.callB .len false (.cons (.var 3) .nil)) .nil))) .nil)) [4] true (.range (.call "_law_draw" (.cons (.var 0) (.cons (.bin false .Add (.callB .min2 false (.cons (.var 2) (.cons (.callB .len false (.cons (.var 3) .nil)) .nil))) (.k (.int 1))) .nil)))) .nil [4])) .nil)) }
def d__law_cell : Def := { ps := 1, n := 2, N := ["pen", "place"], keep := false, lam := false, lm := false, body := (.cons (.asg (.var 1) (.sub (.lst false (.cons (.k (.str "new")) (.cons (.k (.str "going")) (.cons (.k (.str "kept")) (.cons (.k (.str "gone")) .nil))))) (.call "_law_draw" (.cons (.var 0) (.cons (.k (.int 4)) .nil))))) (.cons (.ret (.tup (.cons (.var 1) (.cons (.sub (.lst false (.cons (.k (.str "")) (.cons (.k (.str "")) (.cons (.k (.str "yes")) (.cons (.k (.str "no")) .nil))))) (.call "_law_draw" (.cons (.var 0) (.cons (.k (.int 4)) .nil)))) .nil)))) .nil)) }
def d__law_log_s9 : St := (.ret (.tup (.cons (.var 4) (.cons (.var 5) (.cons (.callB .tuple false (.cons (.callB .sorted false (.cons (.var 7) .nil)) .nil)) (.cons (.cmp .Gt (.call "_law_draw" (.cons (.var 0) (.cons (.k (.int 3)) .nil))) (.k (.int 0))) (.cons (.callB .tuple false (.cons (.var 8) .nil)) .nil)))))))
def d__law_log_s8 : St := (.asg (.var 8) (.callB .sorted false (.cons (.call "_law_some" (.cons (.var 0) (.cons (.lst false (.cons (.k (.str "going")) (.cons (.k (.str "gone")) (.cons (.k (.str "kept")) (.cons (.k (.str "new")) .nil))))) (.cons (.k (.int 4)) .nil)))) .nil)))
def d__law_log_s7 : St := (.ife (.and (.cons (.cmp .Eq (.call "_law_draw" (.cons (.var 0) (.cons (.k (.int 2)) .nil))) (.k (.int 0))) (.cons (.cmp .NotIn (.tup (.cons (.k (.str "all")) (.cons (.k (.str "good")) .nil))) (.var 7)) .nil))) (.cons (.asg (.var 7) (.bin false .Add (.slice false (.var 7) .non (.som (.bin false .Sub (.var 1) (.k (.int 1))))) (.lst false (.cons (.tup (.cons (.k (.str "all")) (.cons (.k (.str "good")) .nil))) .nil)))) .nil) .nil)
def d__law_log_s6 : St := (.asg (.var 7) (.call "_law_some" (.cons (.var 0) (.cons (.var 6) (.cons (.var 1) .nil)))))
def d__law_log_s5 : St := (.asg (.var 6) (.lst false (.cons (.tup (.cons (.k (.str "all")) (.cons (.k (.str "bad")) .nil))) (.cons (.tup (.cons (.k (.str "all")) (.cons (.k (.str "good")) .nil))) (.cons (.tup (.cons (.k (.str "none")) (.cons (.k (.str "bad")) .nil))) (.cons (.tup (.cons (.k (.str "none")) (.cons (.k (.str "good")) .nil))) (.cons (.tup (.cons (.k (.str "some")) (.cons (.k (.str "bad")) .nil))) (.cons (.tup (.cons (.k (.str "some")) (.cons (.k (.str "good")) .nil))) .nil))))))))
def d__law_log_s4 : St := (.asg (.var 5) (.callB .tuple false (.cons (.comp false (.sub (.lst false (.cons (.k (.str "free")) (.cons (.k (.str "next")) (.cons (.k (.str "stay")) (.cons (.k (.str "next")) .nil))))) (.call "_law_draw" (.cons (.var 0) (.cons (.k (.int 4)) .nil)))) [3] true (.range (.k (.int 2))) .nil [3]) .nil)))
def d__law_log_s3 : St := (.asg (.var 4) (.tup (.cons (.sub (.lst false (.cons (.k (.str "")) (.cons (.k (.str "")) (.cons (.k (.str "")) (.cons (.k (.str "yes")) (.cons (.k (.str "no")) .nil)))))) (.call "_law_draw" (.cons (.var 0) (.cons (.k (.int 5)) .nil)))) (.cons (.callB .tuple false (.cons (.slice false (.var 2) .non (.som (.k (.int 2)))) .nil)) (.cons (.callB .tuple false (.cons (.slice false (.var 2) (.som (.k (.int 2))) (.som (.k (.int 4)))) .nil)) (.cons (.callB .tuple false (.cons (.slice false (.var 2) (.som (.k (.int 4))) .non) .nil)) .nil))))))
def d__law_log_s2 : St := (.forr [3] true (.range (.sub (.lst false (.cons (.k (.int 0)) (.cons (.k (.int 1)) (.cons (.k (.int 1)) (.cons (.k (.int 2)) (.cons (.k (.int 6)) .nil)))))) (.call "_law_draw" (.cons (.var 0) (.cons (.k (.int 5)) .nil))))) (.cons (.asg (.sub (.var 2) (.call "_law_draw" (.cons (.var 0) (.cons (.k (.int 6)) .nil)))) (.call "_law_cell" (.cons (.var 0) .nil))) .nil))
def d__law_log_s1 : St := (.ife (.cmp .Eq (.call "_law_draw" (.cons (.var 0) (.cons (.k (.int 2)) .nil))) (.k (.int 0))) (.cons (.asg (.sub (.var 2) (.k (.int 5))) (.sub (.lst false (.cons (.tup (.cons (.k (.str "new")) (.cons (.k (.str "")) .nil))) (.cons (.tup (.cons (.k (.str "going")) (.cons (.k (.str "")) .nil))) .nil))) (.call "_law_draw" (.cons (.var 0) (.cons (.k (.int 2)) .nil))))) .nil) .nil)
def d__law_log_s0 : St := (.asg (.var 2) (.lst true (.cons (.tup (.cons (.k (.str "going")) (.cons (.k (.str "")) .nil))) (.cons (.tup (.cons (.k (.str "going")) (.cons (.k (.str "")) .nil))) (.cons (.tup (.cons (.k (.str "new")) (.cons (.k (.str "")) .nil))) (.cons (.tup (.cons (.k (.str "kept")) (.cons (.k (.str "yes")) .nil))) (.cons (.tup (.cons (.k (.str "new")) (.cons (.k (.str "")) .nil))) (.cons (.tup (.cons (.k (.str "gone")) (.cons (.k (.str "no")) .nil))) .nil))))))))
def d__law_log_t9 : Ss := .cons d__law_log_s9 .nil
def d__law_log_t8 : Ss := .cons d__law_log_s8 d__law_log_t9
def d__law_log_t7 : Ss := .cons d__law_log_s7 d__law_log_t8
def d__law_log_t6 : Ss := .cons d__law_log_s6 d__law_log_t7
def d__law_log_t5 : Ss := .cons d__law_log_s5 d__law_log_t6
def d__law_log_t4 : Ss := .cons d__law_log_s4 d__law_log_t5
def d__law_log_t3 : Ss := .cons d__law_log_s3 d__law_log_t4
def d__law_log_t2 : Ss := .cons d__law_log_s2 d__law_log_t3
def d__law_log_t1 : Ss := .cons d__law_log_s1 d__law_log_t2
def d__law_log_t0 : Ss := .cons d__law_log_s0 d__law_log_t1
def d__law_log : Def := { ps := 2, n := 9, N := ["pen", "size", "plain", "lap", "table", "lead", "pool", "ends", "seen"], keep := false, lam := false, lm := false, body := d__law_log_t0 }
section
variable {S : Store} {p : Nat} {a b c v : D}
theorem sub_p0 (h : S[p]? = some (.lst [a, b, c])) : subD S (.obj p) (.int 0) = some a := by
  show (match seqD S (.obj p) with | some xs => L2.atI xs 0 | none => none) = _
  simp only [seqD, h]; rfl
theorem sub_p1 (h : S[p]? = some (.lst [a, b, c])) : subD S (.obj p) (.int 1) = some b := by
  show (match seqD S (.obj p) with | some xs => L2.atI xs 1 | none => none) = _
  simp only [seqD, h]; rfl
theorem sub_p2 (h : S[p]? = some (.lst [a, b, c])) : subD S (.obj p) (.int 2) = some c := by
  show (match seqD S (.obj p) with | some xs => L2.atI xs 2 | none => none) = _
  simp only [seqD, h]; rfl
theorem set_p1 (h : S[p]? = some (.lst [a, b, c])) : setD (.obj p) (.int 1) v S = .ok () (S.set p (.lst [a, v, c])) := by
  simp only [setD, h]; rfl
theorem set_p2 (h : S[p]? = some (.lst [a, b, c])) : setD (.obj p) (.int 2) v S = .ok () (S.set p (.lst [a, b, v])) := by
  simp only [setD, h]; rfl
theorem lt_of_get {m : MO} (h : S[p]? = some m) : p < S.length := (List.getElem?_eq_some_iff.mp h).1
theorem get_set {m m' : MO} (h : S[p]? = some m') : (S.set p m)[p]? = some m := List.getElem?_set_self (lt_of_get h)
theorem cutR_len {k : Bool} {d : D} {S' : Store} (h : S'.length = S.length) : cutR k S.length d S' = .ok d S' := by
  unfold cutR; simp [h]
theorem backR_rt_set {k : Bool} {d : D} {ρ : Env} {m : MO} : backR k S.length (.ok (.rt d, ρ) (S.set p m)) = .ok d (S.set p m) := by
  simp only [backR]; exact cutR_len (by simp)
theorem res_ints (f : Nat → D) : ∀ ns : List Int, resWs f (ns.map .int) = ns.map .int
  | [] => rfl
  | n :: ns => by simp only [List.map_cons, resWs, resW, res_ints f ns]
theorem ok_ints : ∀ ns : List Int, okTs (ns.map .int) = true
  | [] => rfl
  | n :: ns => by simp only [List.map_cons, okTs, okT, ok_ints ns, Bool.and_self]
theorem dep_ints : ∀ ns : List Int, depTs (ns.map .int) = 0
  | [] => rfl
  | n :: ns => by simp only [List.map_cons, depTs, depT, dep_ints ns, Nat.max_self]
theorem ne_nil_ints {ns : List Int} : cmpD .NotEq (.lst (ns.map .int)) (.lst []) S = some (!ns.isEmpty) := by
  have e1 : resD S (.lst (ns.map .int)) = .lst (ns.map .int) := by
    unfold resD resN; simp only [resW, res_ints]
  have e2 : resD S (.lst []) = .lst [] := rfl
  have f1 : fitT (.lst (ns.map .int)) = true := by
    simp only [fitT, okT, ok_ints, depT, dep_ints]; rfl
  have f2 : fitT (.lst []) = true := rfl
  show (if fitT (resD S (.lst (ns.map .int))) && fitT (resD S (.lst [])) then some (eqT (resD S (.lst (ns.map .int))) (resD S (.lst []))) else none).map not = _
  rw [e1, e2, f1, f2]
  cases ns <;> rfl
theorem atI_lt {α : Type} {xs : List α} {i : Int} (h0 : 0 ≤ i) (h1 : i < xs.length) : ∃ x ∈ xs, L2.atI xs i = some x := by
  have h : i.toNat < xs.length := by omega
  refine ⟨xs[i.toNat], List.getElem_mem h, ?_⟩
  unfold L2.atI L2.ixN
  rw [if_pos h0, if_pos h1]
  show xs[i.toNat]? = _
  exact List.getElem?_eq_getElem h
theorem sub_lst {xs : List D} {i : Int} : subD S (.lst xs) (.int i) = L2.atI xs i := rfl
theorem mulOk_of {i j : Int} (h1 : i.natAbs < 2 ^ 200) (h2 : j.natAbs < 2 ^ 200) : mulOk i j = true := by
  have lg : ∀ n : Nat, n < 2 ^ 200 → n.log2 ≤ 200 := fun n h => by
    rcases Nat.eq_zero_or_pos n with e | e
    · rw [e]; decide
    · have := (Nat.log2_lt (n := n) (k := 200) (by omega)).mpr h
      omega
  have := lg _ h1
  have := lg _ h2
  unfold mulOk
  rw [decide_eq_true_eq]
  omega
theorem m_1 {a b : Int} : mulOk (a % 2147483587) (b % 2147483587) = true := mulOk_of (by omega) (by omega)
theorem m_2 {a b : Int} : mulOk (a % 2147483563) (b % 2147483563) = true := mulOk_of (by omega) (by omega)
theorem m_3 {a : Int} : mulOk (a % 2147483549) 2147483587 = true := mulOk_of (by omega) (by decide)
theorem m_4 {a b : Int} : mulOk (a % 2147483549 * 2147483587 + b % 2147483563) 2147483563 = true := mulOk_of (by omega) (by decide)
theorem pow18 : binD .Pow (.int 10) (.int 18) S = some (.int 1000000000000000000) := by
  simp [binD]
theorem intD_int {i : Int} : intD (.int i) = some (.int i) := rfl
end
section
variable {T : Tab} {n : Nat} {S : Store} {p : Nat}
theorem run_next (h : T.defs "_law_next" = some d__law_next) {ns : List Int} {ix dg : Int} (hS : S[p]? = some (.lst [.lst (ns.map .int), .int ix, .int dg])) (h0 : 0 ≤ ix) (h1 : ix < 2 ^ 60) :
    ∃ v, Run T (n + 3) "_law_next" [.obj p] S = .ok (.int v) (S.set p (.lst [.lst (ns.map .int), .int (ix + 1), .int dg])) := by
  rw [Run_def h rfl]
  have m1 : mulOk ix 1051 = true := mulOk_of (by omega) (by decide)
  have m2 : mulOk ix 30103 = true := mulOk_of (by omega) (by decide)
  have m3 : mulOk ix 70039 = true := mulOk_of (by omega) (by decide)
  have m4 : mulOk ix ix = true := mulOk_of (by omega) (by omega)
  have hb : (ix * ix).natAbs < 2 ^ 200 := by
    rw [Int.natAbs_mul]
    have : ix.natAbs < 2 ^ 60 := by omega
    calc ix.natAbs * ix.natAbs ≤ 2 ^ 60 * 2 ^ 60 := Nat.mul_le_mul (Nat.le_of_lt this) (Nat.le_of_lt this)
      _ < 2 ^ 200 := by decide
  have m5 : mulOk (ix * ix) 37 = true := mulOk_of hb (by decide)
  have hG := get_set (m := .lst [.lst (ns.map .int), .int (ix + 1), .int dg]) hS
  simp only [runD, execs, exec, ev, evs, evAnd, evOr, evIfs, evO, evI, testR, R.bind_ok, R.bind_ex, R.ofO_some, R.ofO_none, rget0, rgetS, asgT, asgTs, lenTs, truD_bl, tru_non, tru_tup, tru_lst, backR_rt, backR_nx, backR_ex, List.length_cons, List.length_nil, List.map_cons, List.map_nil, List.replicate_zero, List.replicate_succ, List.cons_append, List.nil_append, List.append_nil, List.set_cons_zero, List.set_cons_succ, if_true, if_false, Bool.false_eq_true, Bool.true_eq_false, Nat.reduceSub, Nat.reduceAdd, Nat.zero_add, Nat.sub_self, cxN_glob, cxN_exc, Option.map_some, Option.bind_some, K.d, Bool.not_true, Bool.not_false, Option.some.injEq, beq_self_eq_true, Nat.reduceEqDiff, eq_self, Nat.reduceBEq, Bool.or_false, Bool.false_or, Bool.or_true, Bool.true_or, Bool.or_self, Bool.and_self, Bool.and_true, Bool.true_and, Bool.and_false, Bool.false_and, callB_len, callB_repr, callB_all, callB_any, callB_int, callB_tuple, callB_list, callB_isi, callB_min2, isi_non, isi_bl, isi_int, isi_str, isi_tup, isi_lst, isi_dct, len_tup, len_lst, seq_tup, seq_lst, lst_lst, tru_bool, newL_fro, liven_false, cmp_eqI, cmp_neI, cmp_eqS, cmp_neS, cmp_lt, cmp_le, cmp_gt, cmp_ge, cmp_in_tup, cmp_in_lst, cmp_nin_tup, cmp_nin_lst, bin_add, bin_sub, bin_mul, bin_mod, bin_div, bin_addS, bin_addT, bin_addL, meth_count, meth_index, meth_append, meth_popAt, sz_of, Nat.reduceLeDiff, Int.reduceEq, Int.reduceBEq, Int.cast_ofNat_Int, Int.reduceAdd, Int.reduceLT, d__law_next, sub_p1 hS, set_p1 hS, sub_p0 hG, intD_int, m1, ne_nil_ints, List.length_map]
  cases hn : ns.isEmpty with
  | true =>
    have e : ns = [] := by simpa using hn
    subst e
    simp only [List.map_nil] at hG
    have c1 : decide (ix < 0) = false := by simp; omega
    simp only [runD, execs, exec, ev, evs, evAnd, evOr, evIfs, evO, evI, testR, R.bind_ok, R.bind_ex, R.ofO_some, R.ofO_none, rget0, rgetS, asgT, asgTs, lenTs, truD_bl, tru_non, tru_tup, tru_lst, backR_rt, backR_nx, backR_ex, List.length_cons, List.length_nil, List.map_cons, List.map_nil, List.replicate_zero, List.replicate_succ, List.cons_append, List.nil_append, List.append_nil, List.set_cons_zero, List.set_cons_succ, if_true, if_false, Bool.false_eq_true, Bool.true_eq_false, Nat.reduceSub, Nat.reduceAdd, Nat.zero_add, Nat.sub_self, cxN_glob, cxN_exc, Option.map_some, Option.bind_some, K.d, Bool.not_true, Bool.not_false, Option.some.injEq, beq_self_eq_true, Nat.reduceEqDiff, eq_self, Nat.reduceBEq, Bool.or_false, Bool.false_or, Bool.or_true, Bool.true_or, Bool.or_self, Bool.and_self, Bool.and_true, Bool.true_and, Bool.and_false, Bool.false_and, callB_len, callB_repr, callB_all, callB_any, callB_int, callB_tuple, callB_list, callB_isi, callB_min2, isi_non, isi_bl, isi_int, isi_str, isi_tup, isi_lst, isi_dct, len_tup, len_lst, seq_tup, seq_lst, lst_lst, tru_bool, newL_fro, liven_false, cmp_eqI, cmp_neI, cmp_eqS, cmp_neS, cmp_lt, cmp_le, cmp_gt, cmp_ge, cmp_in_tup, cmp_in_lst, cmp_nin_tup, cmp_nin_lst, bin_add, bin_sub, bin_mul, bin_mod, bin_div, bin_addS, bin_addT, bin_addL, meth_count, meth_index, meth_append, meth_popAt, sz_of, Nat.reduceLeDiff, Int.reduceEq, Int.reduceBEq, Int.cast_ofNat_Int, Int.reduceAdd, Int.reduceLT, sub_p0 hG, c1, m2, m3, m4, m5, m_1, m_2, m_3, m_4, intD_int, backR_rt_set]
    exact ⟨_, rfl⟩
  | false =>
    have hp : (0 : Int) < ns.length := by
      cases ns with
      | nil => cases hn
      | cons _ _ => simp only [List.length_cons]; omega
    obtain ⟨x, hx, ex⟩ := atI_lt (xs := ns.map D.int) (i := ix % ns.length) (Int.emod_nonneg _ (by omega)) (by rw [List.length_map]; exact Int.emod_lt_of_pos _ hp)
    obtain ⟨z, _, rfl⟩ := List.mem_map.mp hx
    simp only [runD, execs, exec, ev, evs, evAnd, evOr, evIfs, evO, evI, testR, R.bind_ok, R.bind_ex, R.ofO_some, R.ofO_none, rget0, rgetS, asgT, asgTs, lenTs, truD_bl, tru_non, tru_tup, tru_lst, backR_rt, backR_nx, backR_ex, List.length_cons, List.length_nil, List.map_cons, List.map_nil, List.replicate_zero, List.replicate_succ, List.cons_append, List.nil_append, List.append_nil, List.set_cons_zero, List.set_cons_succ, if_true, if_false, Bool.false_eq_true, Bool.true_eq_false, Nat.reduceSub, Nat.reduceAdd, Nat.zero_add, Nat.sub_self, cxN_glob, cxN_exc, Option.map_some, Option.bind_some, K.d, Bool.not_true, Bool.not_false, Option.some.injEq, beq_self_eq_true, Nat.reduceEqDiff, eq_self, Nat.reduceBEq, Bool.or_false, Bool.false_or, Bool.or_true, Bool.true_or, Bool.or_self, Bool.and_self, Bool.and_true, Bool.true_and, Bool.and_false, Bool.false_and, callB_len, callB_repr, callB_all, callB_any, callB_int, callB_tuple, callB_list, callB_isi, callB_min2, isi_non, isi_bl, isi_int, isi_str, isi_tup, isi_lst, isi_dct, len_tup, len_lst, seq_tup, seq_lst, lst_lst, tru_bool, newL_fro, liven_false, cmp_eqI, cmp_neI, cmp_eqS, cmp_neS, cmp_lt, cmp_le, cmp_gt, cmp_ge, cmp_in_tup, cmp_in_lst, cmp_nin_tup, cmp_nin_lst, bin_add, bin_sub, bin_mul, bin_mod, bin_div, bin_addS, bin_addT, bin_addL, meth_count, meth_index, meth_append, meth_popAt, sz_of, Nat.reduceLeDiff, Int.reduceEq, Int.reduceBEq, Int.cast_ofNat_Int, Int.reduceAdd, Int.reduceLT, sub_p0 hG, hp, sub_lst, ex, intD_int, List.length_map, pow18]
    cases c1 : decide (ix < (ns.length : Int)) with
    | true =>
      cases c2 : decide (1000000000000000000 ≤ z) with
      | true =>
        simp only [runD, execs, exec, ev, evs, evAnd, evOr, evIfs, evO, evI, testR, R.bind_ok, R.bind_ex, R.ofO_some, R.ofO_none, rget0, rgetS, asgT, asgTs, lenTs, truD_bl, tru_non, tru_tup, tru_lst, backR_rt, backR_nx, backR_ex, List.length_cons, List.length_nil, List.map_cons, List.map_nil, List.replicate_zero, List.replicate_succ, List.cons_append, List.nil_append, List.append_nil, List.set_cons_zero, List.set_cons_succ, if_true, if_false, Bool.false_eq_true, Bool.true_eq_false, Nat.reduceSub, Nat.reduceAdd, Nat.zero_add, Nat.sub_self, cxN_glob, cxN_exc, Option.map_some, Option.bind_some, K.d, Bool.not_true, Bool.not_false, Option.some.injEq, beq_self_eq_true, Nat.reduceEqDiff, eq_self, Nat.reduceBEq, Bool.or_false, Bool.false_or, Bool.or_true, Bool.true_or, Bool.or_self, Bool.and_self, Bool.and_true, Bool.true_and, Bool.and_false, Bool.false_and, callB_len, callB_repr, callB_all, callB_any, callB_int, callB_tuple, callB_list, callB_isi, callB_min2, isi_non, isi_bl, isi_int, isi_str, isi_tup, isi_lst, isi_dct, len_tup, len_lst, seq_tup, seq_lst, lst_lst, tru_bool, newL_fro, liven_false, cmp_eqI, cmp_neI, cmp_eqS, cmp_neS, cmp_lt, cmp_le, cmp_gt, cmp_ge, cmp_in_tup, cmp_in_lst, cmp_nin_tup, cmp_nin_lst, bin_add, bin_sub, bin_mul, bin_mod, bin_div, bin_addS, bin_addT, bin_addL, meth_count, meth_index, meth_append, meth_popAt, sz_of, Nat.reduceLeDiff, Int.reduceEq, Int.reduceBEq, Int.cast_ofNat_Int, Int.reduceAdd, Int.reduceLT, c2, backR_rt_set, pow18]
        exact ⟨_, rfl⟩
      | false =>
        simp only [runD, execs, exec, ev, evs, evAnd, evOr, evIfs, evO, evI, testR, R.bind_ok, R.bind_ex, R.ofO_some, R.ofO_none, rget0, rgetS, asgT, asgTs, lenTs, truD_bl, tru_non, tru_tup, tru_lst, backR_rt, backR_nx, backR_ex, List.length_cons, List.length_nil, List.map_cons, List.map_nil, List.replicate_zero, List.replicate_succ, List.cons_append, List.nil_append, List.append_nil, List.set_cons_zero, List.set_cons_succ, if_true, if_false, Bool.false_eq_true, Bool.true_eq_false, Nat.reduceSub, Nat.reduceAdd, Nat.zero_add, Nat.sub_self, cxN_glob, cxN_exc, Option.map_some, Option.bind_some, K.d, Bool.not_true, Bool.not_false, Option.some.injEq, beq_self_eq_true, Nat.reduceEqDiff, eq_self, Nat.reduceBEq, Bool.or_false, Bool.false_or, Bool.or_true, Bool.true_or, Bool.or_self, Bool.and_self, Bool.and_true, Bool.true_and, Bool.and_false, Bool.false_and, callB_len, callB_repr, callB_all, callB_any, callB_int, callB_tuple, callB_list, callB_isi, callB_min2, isi_non, isi_bl, isi_int, isi_str, isi_tup, isi_lst, isi_dct, len_tup, len_lst, seq_tup, seq_lst, lst_lst, tru_bool, newL_fro, liven_false, cmp_eqI, cmp_neI, cmp_eqS, cmp_neS, cmp_lt, cmp_le, cmp_gt, cmp_ge, cmp_in_tup, cmp_in_lst, cmp_nin_tup, cmp_nin_lst, bin_add, bin_sub, bin_mul, bin_mod, bin_div, bin_addS, bin_addT, bin_addL, meth_count, meth_index, meth_append, meth_popAt, sz_of, Nat.reduceLeDiff, Int.reduceEq, Int.reduceBEq, Int.cast_ofNat_Int, Int.reduceAdd, Int.reduceLT, c2, pow18, m2, m3, m4, m5, m_1, m_2, m_3, m_4, intD_int, backR_rt_set]
        exact ⟨_, rfl⟩
    | false =>
      simp only [runD, execs, exec, ev, evs, evAnd, evOr, evIfs, evO, evI, testR, R.bind_ok, R.bind_ex, R.ofO_some, R.ofO_none, rget0, rgetS, asgT, asgTs, lenTs, truD_bl, tru_non, tru_tup, tru_lst, backR_rt, backR_nx, backR_ex, List.length_cons, List.length_nil, List.map_cons, List.map_nil, List.replicate_zero, List.replicate_succ, List.cons_append, List.nil_append, List.append_nil, List.set_cons_zero, List.set_cons_succ, if_true, if_false, Bool.false_eq_true, Bool.true_eq_false, Nat.reduceSub, Nat.reduceAdd, Nat.zero_add, Nat.sub_self, cxN_glob, cxN_exc, Option.map_some, Option.bind_some, K.d, Bool.not_true, Bool.not_false, Option.some.injEq, beq_self_eq_true, Nat.reduceEqDiff, eq_self, Nat.reduceBEq, Bool.or_false, Bool.false_or, Bool.or_true, Bool.true_or, Bool.or_self, Bool.and_self, Bool.and_true, Bool.true_and, Bool.and_false, Bool.false_and, callB_len, callB_repr, callB_all, callB_any, callB_int, callB_tuple, callB_list, callB_isi, callB_min2, isi_non, isi_bl, isi_int, isi_str, isi_tup, isi_lst, isi_dct, len_tup, len_lst, seq_tup, seq_lst, lst_lst, tru_bool, newL_fro, liven_false, cmp_eqI, cmp_neI, cmp_eqS, cmp_neS, cmp_lt, cmp_le, cmp_gt, cmp_ge, cmp_in_tup, cmp_in_lst, cmp_nin_tup, cmp_nin_lst, bin_add, bin_sub, bin_mul, bin_mod, bin_div, bin_addS, bin_addT, bin_addL, meth_count, meth_index, meth_append, meth_popAt, sz_of, Nat.reduceLeDiff, Int.reduceEq, Int.reduceBEq, Int.cast_ofNat_Int, Int.reduceAdd, Int.reduceLT, m2, m3, m4, m5, m_1, m_2, m_3, m_4, intD_int, backR_rt_set]
      exact ⟨_, rfl⟩
def Pen (b : Nat) (m : MO) : Prop := ∃ (ns : List Int) (ix dg : Int), m = .lst [.lst (ns.map .int), .int ix, .int dg] ∧ 0 ≤ ix ∧ ix ≤ b
theorem Pen.mono {b b' : Nat} {m : MO} (h : Pen b m) (l : b ≤ b') : Pen b' m := by
  obtain ⟨ns, ix, dg, e, h0, h1⟩ := h
  exact ⟨ns, ix, dg, e, h0, by omega⟩
structure PenT (T : Tab) : Prop where
  next : T.defs "_law_next" = some d__law_next
  draw : T.defs "_law_draw" = some d__law_draw
theorem run_draw (h : PenT T) {m : MO} {b : Nat} {u : Int} (hS : S[p]? = some m) (hm : Pen b m) (hb : b < 2 ^ 59) (h0 : 0 < u) (h1 : u < 2 ^ 60) :
    ∃ k m', Run T (n + 4) "_law_draw" [.obj p, .int u] S = .ok (.int k) (S.set p m') ∧ Pen (b + 1) m' ∧ 0 ≤ k ∧ k < u := by
  obtain ⟨ns, ix, dg, rfl, i0, i1⟩ := hm
  rw [Run_def h.draw rfl]
  have lg : u.natAbs.log2 < 9000 := by
    have := (Nat.log2_lt (n := u.natAbs) (k := 60) (by omega)).mpr (by omega)
    omega
  have hc : 0 < u ∧ u.natAbs.log2 < 9000 := ⟨h0, lg⟩
  cases c : decide (dg < u) with
  | true =>
    obtain ⟨v, hv⟩ := run_next (n := n) (p := p) h.next hS i0 (by omega)
    have hG := get_set (m := .lst [.lst (ns.map .int), .int (ix + 1), .int dg]) hS
    have hG2 := get_set (m := .lst [.lst (ns.map .int), .int (ix + 1), .int v]) hS
    simp only [runD, execs, exec, ev, evs, evAnd, evOr, evIfs, evO, evI, testR, R.bind_ok, R.bind_ex, R.ofO_some, R.ofO_none, rget0, rgetS, asgT, asgTs, lenTs, truD_bl, tru_non, tru_tup, tru_lst, backR_rt, backR_nx, backR_ex, List.length_cons, List.length_nil, List.map_cons, List.map_nil, List.replicate_zero, List.replicate_succ, List.cons_append, List.nil_append, List.append_nil, List.set_cons_zero, List.set_cons_succ, if_true, if_false, Bool.false_eq_true, Bool.true_eq_false, Nat.reduceSub, Nat.reduceAdd, Nat.zero_add, Nat.sub_self, cxN_glob, cxN_exc, Option.map_some, Option.bind_some, K.d, Bool.not_true, Bool.not_false, Option.some.injEq, beq_self_eq_true, Nat.reduceEqDiff, eq_self, Nat.reduceBEq, Bool.or_false, Bool.false_or, Bool.or_true, Bool.true_or, Bool.or_self, Bool.and_self, Bool.and_true, Bool.true_and, Bool.and_false, Bool.false_and, callB_len, callB_repr, callB_all, callB_any, callB_int, callB_tuple, callB_list, callB_isi, callB_min2, isi_non, isi_bl, isi_int, isi_str, isi_tup, isi_lst, isi_dct, len_tup, len_lst, seq_tup, seq_lst, lst_lst, tru_bool, newL_fro, liven_false, cmp_eqI, cmp_neI, cmp_eqS, cmp_neS, cmp_lt, cmp_le, cmp_gt, cmp_ge, cmp_in_tup, cmp_in_lst, cmp_nin_tup, cmp_nin_lst, bin_add, bin_sub, bin_mul, bin_mod, bin_div, bin_addS, bin_addT, bin_addL, meth_count, meth_index, meth_append, meth_popAt, sz_of, Nat.reduceLeDiff, Int.reduceEq, Int.reduceBEq, Int.cast_ofNat_Int, Int.reduceAdd, Int.reduceLT, d__law_draw, sub_p2 hS, c, call_def h.next rfl, hv, set_p2 hG, List.set_set, sub_p2 hG2, intD_int, h0, hc, set_p2 hG2, backR_rt_set, and_self]
    exact ⟨_, _, rfl, ⟨ns, ix + 1, _, rfl, by omega, by omega⟩, Int.emod_nonneg _ (by omega), Int.emod_lt_of_pos _ h0⟩
  | false =>
    simp only [runD, execs, exec, ev, evs, evAnd, evOr, evIfs, evO, evI, testR, R.bind_ok, R.bind_ex, R.ofO_some, R.ofO_none, rget0, rgetS, asgT, asgTs, lenTs, truD_bl, tru_non, tru_tup, tru_lst, backR_rt, backR_nx, backR_ex, List.length_cons, List.length_nil, List.map_cons, List.map_nil, List.replicate_zero, List.replicate_succ, List.cons_append, List.nil_append, List.append_nil, List.set_cons_zero, List.set_cons_succ, if_true, if_false, Bool.false_eq_true, Bool.true_eq_false, Nat.reduceSub, Nat.reduceAdd, Nat.zero_add, Nat.sub_self, cxN_glob, cxN_exc, Option.map_some, Option.bind_some, K.d, Bool.not_true, Bool.not_false, Option.some.injEq, beq_self_eq_true, Nat.reduceEqDiff, eq_self, Nat.reduceBEq, Bool.or_false, Bool.false_or, Bool.or_true, Bool.true_or, Bool.or_self, Bool.and_self, Bool.and_true, Bool.true_and, Bool.and_false, Bool.false_and, callB_len, callB_repr, callB_all, callB_any, callB_int, callB_tuple, callB_list, callB_isi, callB_min2, isi_non, isi_bl, isi_int, isi_str, isi_tup, isi_lst, isi_dct, len_tup, len_lst, seq_tup, seq_lst, lst_lst, tru_bool, newL_fro, liven_false, cmp_eqI, cmp_neI, cmp_eqS, cmp_neS, cmp_lt, cmp_le, cmp_gt, cmp_ge, cmp_in_tup, cmp_in_lst, cmp_nin_tup, cmp_nin_lst, bin_add, bin_sub, bin_mul, bin_mod, bin_div, bin_addS, bin_addT, bin_addL, meth_count, meth_index, meth_append, meth_popAt, sz_of, Nat.reduceLeDiff, Int.reduceEq, Int.reduceBEq, Int.cast_ofNat_Int, Int.reduceAdd, Int.reduceLT, d__law_draw, sub_p2 hS, c, intD_int, h0, hc, set_p2 hS, backR_rt_set, and_self]
    exact ⟨_, _, rfl, ⟨ns, ix, _, rfl, by omega, by omega⟩, Int.emod_nonneg _ (by omega), Int.emod_lt_of_pos _ h0⟩
def Closed (S : Store) : Prop := ∀ o ∈ S, topM o ≤ S.length
theorem Pen.top {b : Nat} {m : MO} (h : Pen b m) : topM m = 0 := by
  obtain ⟨ns, ix, dg, rfl, _⟩ := h
  have : ∀ l : List Int, topDs (l.map .int) = 0 := by
    intro l
    induction l with
    | nil => rfl
    | cons a l ih => simp only [List.map_cons, topDs, topD, ih, Nat.max_self]
  simp only [topM, topDs, topD, this, Nat.max_self]
theorem Closed.set {S : Store} {p : Nat} {m : MO} (h : Closed S) (hm : topM m ≤ S.length) : Closed (S.set p m) := by
  intro o ho
  rw [List.length_set]
  rcases List.mem_or_eq_of_mem_set ho with e | e
  · exact h o e
  · rw [e]; exact hm
theorem cutR_app {k : Bool} {d : D} {A B : Store} (h : Closed A) (hd : topD d ≤ A.length) : cutR k A.length d (A ++ B) = .ok d (if k then A ++ B else A) := by
  unfold cutR
  cases k with
  | true => simp
  | false =>
    by_cases e : B = []
    · subst e; simp
    · have hl : ((A ++ B).length == A.length) = false := by
        rw [beq_eq_false_iff_ne, List.length_append]
        have : B.length ≠ 0 := fun z => e (List.length_eq_zero_iff.mp z)
        omega
      have ht : (A ++ B).take A.length = A := List.take_left
      simp only [hl, Bool.or_self, Bool.false_eq_true, if_false, ht]
      rw [if_pos]
      rw [Bool.and_eq_true, decide_eq_true_eq, List.all_eq_true]
      exact ⟨⟨by rw [List.length_append]; omega, hd⟩, fun o ho => by rw [decide_eq_true_eq]; exact h o ho⟩
theorem backR_rt_app {d : D} {ρ : Env} {A B : Store} (h : Closed A) (hd : topD d ≤ A.length) : backR false A.length (.ok (.rt d, ρ) (A ++ B)) = .ok d A := by
  simp only [backR]; rw [cutR_app h hd]; rfl
theorem compL_inv {f : D → Env → Store → R (Option D)} {ρ : Env} (N : Nat) (I : List D → Store → Prop) : ∀ (ds : List D) (acc : List D) (S : Store), acc.length + ds.length = N → I acc S →
    (∀ d ∈ ds, ∀ acc S, acc.length < N → I acc S → ∃ x S', f d ρ S = .ok (some x) S' ∧ I (acc ++ [x]) S') → ∃ xs S', compL f ds ρ S = .ok xs S' ∧ xs.length = ds.length ∧ I (acc ++ xs) S'
  | [], acc, S, _, h, _ => ⟨[], S, rfl, rfl, by rw [List.append_nil]; exact h⟩
  | d :: ds, acc, S, hl, h, st => by
    simp only [List.length_cons] at hl
    obtain ⟨x, S1, e1, h1⟩ := st d (List.mem_cons_self ..) acc S (by omega) h
    obtain ⟨xs, S2, e2, l2, h2⟩ := compL_inv N I ds (acc ++ [x]) S1 (by rw [List.length_append]; simp only [List.length_cons, List.length_nil]; omega) h1 fun d hd => st d (List.mem_cons_of_mem _ hd)
    refine ⟨x :: xs, S2, ?_, by rw [List.length_cons, l2, List.length_cons], by rw [List.append_assoc] at h2; exact h2⟩
    simp only [compL, e1, noxR, R.bind_ok, e2]
theorem rangeD_length : ∀ (k : Nat) (lo : Int), (rangeD lo k).length = k
  | 0, _ => rfl
  | k + 1, lo => by simp only [rangeD, List.length_cons, rangeD_length k]
theorem mem_rangeD {d : D} : ∀ {k : Nat} {lo : Int}, d ∈ rangeD lo k → ∃ i : Int, d = .int i ∧ lo ≤ i ∧ i < lo + k
  | 0, _, h => by cases h
  | k + 1, lo, h => by
    rcases List.mem_cons.mp h with e | e
    · exact ⟨lo, e, by omega, by omega⟩
    · obtain ⟨i, e, h1, h2⟩ := mem_rangeD e
      exact ⟨i, e, by omega, by omega⟩
theorem get_app_lt {S B : Store} {m : MO} (h : S[p]? = some m) : (S ++ B)[p]? = some m := by
  rw [List.getElem?_append_left (lt_of_get h)]; exact h
theorem get_app_self {A : Store} {m : MO} {q : Nat} (h : A.length = q) : (A ++ [m])[q]? = some m := by
  subst h; simp
theorem set_app_lt {S B : Store} {m : MO} (h : p < S.length) : (S ++ B).set p m = S.set p m ++ B := List.set_append_left _ _ h
theorem set_app_self {A : Store} {m m' : MO} {q : Nat} (h : A.length = q) : (A ++ [m]).set q m' = A ++ [m'] := by
  subst h; rw [List.set_append_right _ _ (Nat.le_refl _), Nat.sub_self]; rfl
theorem len_obj {S : Store} {q : Nat} {ys : List D} (h : S[q]? = some (.lst ys)) : lenD S (.obj q) = some (ys.length : Int) := by
  show (seqD S (.obj q)).map _ = _
  simp only [seqD, h, Option.map_some]
theorem lst_obj {S : Store} {q : Nat} {ys : List D} (h : S[q]? = some (.lst ys)) : lstD S (.obj q) = some ys := by simp only [lstD, h]
theorem cons_eraseIdx {α : Type} : ∀ {l : List α} {i : Nat} (h : i < l.length), (l[i] :: l.eraseIdx i).Perm l
  | a :: l, 0, _ => .refl _
  | a :: l, i + 1, h => by
    simp only [List.length_cons] at h
    show (l[i] :: a :: l.eraseIdx i).Perm (a :: l)
    exact (List.Perm.swap a (l[i]'(by omega)) _).trans ((cons_eraseIdx (by omega)).cons a)
theorem pop_obj {S : Store} {q : Nat} {ys : List D} {i : Int} (h : S[q]? = some (.lst ys)) (h0 : 0 ≤ i) (h1 : i < ys.length) (hz : ys.length ≤ 1000000) :
    ∃ (x : D) (j : Nat), popAtD (.obj q) (.int i) S = .ok x (S.set q (.lst (ys.eraseIdx j))) ∧ (x :: ys.eraseIdx j).Perm ys := by
  have hj : i.toNat < ys.length := by omega
  refine ⟨ys[i.toNat], i.toNat, ?_, cons_eraseIdx hj⟩
  have e1 : L2.ixN ys.length i = some i.toNat := by
    unfold L2.ixN
    rw [if_pos h0, if_pos h1]
  have e2 : ys.length ≤ sizeLine := by rw [sizeLine_eq]; omega
  simp only [popAtD, h, e1, List.getElem?_eq_getElem hj, e2, if_true]
theorem newL_live {S : Store} {xs : List D} (h : xs.length ≤ 1000000) : newL true xs S = .ok (.obj S.length) (S ++ [.lst xs]) := by
  unfold newL
  rw [sz_of h]; rfl
theorem topDs_zero {xs : List D} (h : ∀ x ∈ xs, topD x = 0) : topDs xs = 0 := by
  induction xs with
  | nil => rfl
  | cons x xs ih => simp only [topDs, h x (List.mem_cons_self ..), ih fun y hy => h y (List.mem_cons_of_mem _ hy), Nat.max_self]
theorem min2_int {a b : Int} : min2D (.int a) (.int b) = some (.int (if b < a then b else a)) := rfl
theorem run_some (h : PenT T) (h2 : T.defs "_law_some" = some d__law_some) {m : MO} {b : Nat} {pool : D} {ps : List D} {most : Nat} (hS : S[p]? = some m) (hm : Pen b m) (hb : b + most < 2 ^ 58) (hc : Closed S) (hpool : seqD S pool = some ps) (ht : ∀ x ∈ ps, topD x = 0) (hz : ps.length ≤ 1000) :
    ∃ xs rest m', Run T (n + 6) "_law_some" [.obj p, pool, .int most] S = .ok (.lst xs) (S.set p m') ∧ Pen (b + 1 + most) m' ∧ (xs ++ rest).Perm ps ∧ xs.length ≤ most := by
  rw [Run_def h2 rfl]
  have hz1 : ps.length ≤ 1000000 := by omega
  have hS1 : (S ++ [.lst ps])[p]? = some m := get_app_lt hS
  have hq : (S ++ [MO.lst ps])[S.length]? = some (.lst ps) := get_app_self rfl
  have hp := lt_of_get hS
  obtain ⟨k, m1, e1, hm1, k0, k1⟩ := run_draw (n := n + 1) (u := (if (ps.length : Int) < most then (ps.length : Int) else most) + 1) h hS1 hm (by omega) (by split <;> omega) (by split <;> omega)
  rw [set_app_lt hp] at e1
  have hk : -(2 ^ 62) ≤ k ∧ k < 2 ^ 62 := by
    constructor
    · omega
    · split at k1 <;> omega
  have hkn : k.toNat ≤ ps.length ∧ k.toNat ≤ most := by split at k1 <;> omega
  have hkz : k.toNat ≤ 1000000 := by omega
  simp only [runD, execs, exec, ev, evs, evAnd, evOr, evIfs, evO, evI, testR, R.bind_ok, R.bind_ex, R.ofO_some, R.ofO_none, rget0, rgetS, asgT, asgTs, lenTs, truD_bl, tru_non, tru_tup, tru_lst, backR_rt, backR_nx, backR_ex, List.length_cons, List.length_nil, List.map_cons, List.map_nil, List.replicate_zero, List.replicate_succ, List.cons_append, List.nil_append, List.append_nil, List.set_cons_zero, List.set_cons_succ, if_true, if_false, Bool.false_eq_true, Bool.true_eq_false, Nat.reduceSub, Nat.reduceAdd, Nat.zero_add, Nat.sub_self, cxN_glob, cxN_exc, Option.map_some, Option.bind_some, K.d, Bool.not_true, Bool.not_false, Option.some.injEq, beq_self_eq_true, Nat.reduceEqDiff, eq_self, Nat.reduceBEq, Bool.or_false, Bool.false_or, Bool.or_true, Bool.true_or, Bool.or_self, Bool.and_self, Bool.and_true, Bool.true_and, Bool.and_false, Bool.false_and, callB_len, callB_repr, callB_all, callB_any, callB_int, callB_tuple, callB_list, callB_isi, callB_min2, isi_non, isi_bl, isi_int, isi_str, isi_tup, isi_lst, isi_dct, len_tup, len_lst, seq_tup, seq_lst, lst_lst, tru_bool, newL_fro, liven_false, cmp_eqI, cmp_neI, cmp_eqS, cmp_neS, cmp_lt, cmp_le, cmp_gt, cmp_ge, cmp_in_tup, cmp_in_lst, cmp_nin_tup, cmp_nin_lst, bin_add, bin_sub, bin_mul, bin_mod, bin_div, bin_addS, bin_addT, bin_addL, meth_count, meth_index, meth_append, meth_popAt, sz_of, Nat.reduceLeDiff, Int.reduceEq, Int.reduceBEq, Int.cast_ofNat_Int, Int.reduceAdd, Int.reduceLT, d__law_some, hpool, hz1, newL_live, len_obj hq, min2_int, call_def h.draw rfl, e1, hk, rangeD_length, hkz, wipeE, and_self]
  generalize hF : compL _ _ _ _ = rr
  obtain ⟨xs, S', e, hl, hI⟩ : ∃ xs S', rr = .ok xs S' ∧ xs.length = (rangeD 0 k.toNat).length ∧ ∃ m' ys, S' = S.set p m' ++ [.lst ys] ∧ Pen (b + 1 + xs.length) m' ∧ (xs ++ ys).Perm ps := by
    rw [← hF]
    refine compL_inv k.toNat (fun acc S' => ∃ m' ys, S' = S.set p m' ++ [.lst ys] ∧ Pen (b + 1 + acc.length) m' ∧ (acc ++ ys).Perm ps) (rangeD 0 k.toNat) [] _ (by rw [rangeD_length]; simp) ⟨m1, ps, rfl, hm1, .refl _⟩ ?_
    rintro d - acc S1 hac ⟨m2, ys, rfl, hm2, hper⟩
    have hlen := hper.length_eq
    rw [List.length_append] at hlen
    have hS2 : (S.set p m2 ++ [MO.lst ys])[p]? = some m2 := get_app_lt (get_set hS)
    have hq2 : (S.set p m2 ++ [MO.lst ys])[S.length]? = some (.lst ys) := get_app_self (by simp)
    obtain ⟨k2, m3, e2, hm3, j0, j1⟩ := run_draw (n := n + 1) (u := ys.length) h hS2 hm2 (by omega) (by omega) (by omega)
    rw [set_app_lt (by simpa using hp), List.set_set] at e2
    have hq3 : (S.set p m3 ++ [MO.lst ys])[S.length]? = some (.lst ys) := get_app_self (by simp)
    obtain ⟨x, j, e3, hp3⟩ := pop_obj hq3 j0 j1 (by omega)
    rw [set_app_self (by simp)] at e3
    have hok : mOk .popAt (.obj S.length) (S.set p m2 ++ [MO.lst ys]) = true := by
      show (lstD _ _).isSome = true
      rw [lst_obj hq2]; rfl
    refine ⟨x, S.set p m3 ++ [.lst (ys.eraseIdx j)], by simp only [runD, execs, exec, ev, evs, evAnd, evOr, evIfs, evO, evI, testR, R.bind_ok, R.bind_ex, R.ofO_some, R.ofO_none, rget0, rgetS, asgT, asgTs, lenTs, truD_bl, tru_non, tru_tup, tru_lst, backR_rt, backR_nx, backR_ex, List.length_cons, List.length_nil, List.map_cons, List.map_nil, List.replicate_zero, List.replicate_succ, List.cons_append, List.nil_append, List.append_nil, List.set_cons_zero, List.set_cons_succ, if_true, if_false, Bool.false_eq_true, Bool.true_eq_false, Nat.reduceSub, Nat.reduceAdd, Nat.zero_add, Nat.sub_self, cxN_glob, cxN_exc, Option.map_some, Option.bind_some, K.d, Bool.not_true, Bool.not_false, Option.some.injEq, beq_self_eq_true, Nat.reduceEqDiff, eq_self, Nat.reduceBEq, Bool.or_false, Bool.false_or, Bool.or_true, Bool.true_or, Bool.or_self, Bool.and_self, Bool.and_true, Bool.true_and, Bool.and_false, Bool.false_and, callB_len, callB_repr, callB_all, callB_any, callB_int, callB_tuple, callB_list, callB_isi, callB_min2, isi_non, isi_bl, isi_int, isi_str, isi_tup, isi_lst, isi_dct, len_tup, len_lst, seq_tup, seq_lst, lst_lst, tru_bool, newL_fro, liven_false, cmp_eqI, cmp_neI, cmp_eqS, cmp_neS, cmp_lt, cmp_le, cmp_gt, cmp_ge, cmp_in_tup, cmp_in_lst, cmp_nin_tup, cmp_nin_lst, bin_add, bin_sub, bin_mul, bin_mod, bin_div, bin_addS, bin_addT, bin_addL, meth_count, meth_index, meth_append, meth_popAt, sz_of, Nat.reduceLeDiff, Int.reduceEq, Int.reduceBEq, Int.cast_ofNat_Int, Int.reduceAdd, Int.reduceLT, bindE, hok, len_obj hq2, call_def h.draw rfl, e2, e3], m3, _, rfl, ?_, ?_⟩
    · refine hm3.mono ?_
      simp only [List.length_append, List.length_cons, List.length_nil]; omega
    · rw [List.append_assoc]
      exact ((hp3.append_left acc)).trans hper
  subst e
  obtain ⟨m', ys, rfl, hm', hper⟩ := hI
  have hxs : xs.length ≤ most ∧ xs.length ≤ 1000000 := by rw [hl, rangeD_length]; omega
  refine ⟨xs, ys, m', ?_, hm'.mono (by omega), hper, hxs.1⟩
  have ht2 : topD (.lst xs) = 0 := topDs_zero fun x hx => ht x (hper.subset (List.mem_append_left _ hx))
  simp only [runD, execs, exec, ev, evs, evAnd, evOr, evIfs, evO, evI, testR, R.bind_ok, R.bind_ex, R.ofO_some, R.ofO_none, rget0, rgetS, asgT, asgTs, lenTs, truD_bl, tru_non, tru_tup, tru_lst, backR_rt, backR_nx, backR_ex, List.length_cons, List.length_nil, List.map_cons, List.map_nil, List.replicate_zero, List.replicate_succ, List.cons_append, List.nil_append, List.append_nil, List.set_cons_zero, List.set_cons_succ, if_true, if_false, Bool.false_eq_true, Bool.true_eq_false, Nat.reduceSub, Nat.reduceAdd, Nat.zero_add, Nat.sub_self, cxN_glob, cxN_exc, Option.map_some, Option.bind_some, K.d, Bool.not_true, Bool.not_false, Option.some.injEq, beq_self_eq_true, Nat.reduceEqDiff, eq_self, Nat.reduceBEq, Bool.or_false, Bool.false_or, Bool.or_true, Bool.true_or, Bool.or_self, Bool.and_self, Bool.and_true, Bool.true_and, Bool.and_false, Bool.false_and, callB_len, callB_repr, callB_all, callB_any, callB_int, callB_tuple, callB_list, callB_isi, callB_min2, isi_non, isi_bl, isi_int, isi_str, isi_tup, isi_lst, isi_dct, len_tup, len_lst, seq_tup, seq_lst, lst_lst, tru_bool, newL_fro, liven_false, cmp_eqI, cmp_neI, cmp_eqS, cmp_neS, cmp_lt, cmp_le, cmp_gt, cmp_ge, cmp_in_tup, cmp_in_lst, cmp_nin_tup, cmp_nin_lst, bin_add, bin_sub, bin_mul, bin_mod, bin_div, bin_addS, bin_addT, bin_addL, meth_count, meth_index, meth_append, meth_popAt, sz_of, Nat.reduceLeDiff, Int.reduceEq, Int.reduceBEq, Int.cast_ofNat_Int, Int.reduceAdd, Int.reduceLT, hxs]
  have hl2 : S.length = (S.set p m').length := by simp
  rw [hl2]
  exact backR_rt_app (hc.set (by rw [hm'.top]; omega)) (by rw [ht2]; omega)
end
end FT
end

section
set_option Elab.async false
set_option linter.all false
set_option maxRecDepth 100000
set_option autoImplicit false
/-! FT.PLg: sorted lists of different items. -/
namespace FT
open PySem
def chainB : List D → Bool
  | [] => true
  | p :: ps => ps.all (fun q => ltT p q && !ltT q p && !eqT p q && !eqT q p) && eqT p p && !ltT p p && chainB ps
def ltR (a b : D) : Prop := ltT a b = true ∧ ltT b a = false ∧ eqT a b = false ∧ eqT b a = false
structure Chain (P : List D) : Prop where
  lt : P.Pairwise ltR
  rf : ∀ a ∈ P, eqT a a = true ∧ ltT a a = false
theorem chain_of : ∀ {P : List D}, chainB P = true → Chain P
  | [], _ => ⟨List.Pairwise.nil, fun a h => by cases h⟩
  | p :: ps, h => by
    simp only [chainB, Bool.and_eq_true, List.all_eq_true, Bool.not_eq_true'] at h
    obtain ⟨⟨⟨h1, h2⟩, h3⟩, h4⟩ := h
    have ih := chain_of h4
    refine ⟨List.Pairwise.cons (fun q hq => ?_) ih.lt, fun a ha => ?_⟩
    · have := h1 q hq
      exact ⟨this.1.1.1, this.1.1.2, this.1.2, this.2⟩
    · rcases List.mem_cons.mp ha with e | e
      · rw [e]; exact ⟨h2, h3⟩
      · exact ih.rf a e
theorem Chain.tail {p : D} {ps : List D} (h : Chain (p :: ps)) : Chain ps := ⟨(List.pairwise_cons.mp h.lt).2, fun a ha => h.rf a (List.mem_cons_of_mem _ ha)⟩
theorem Chain.sub {P l : List D} (h : Chain P) (s : l.Sublist P) : Chain l := ⟨h.lt.sublist s, fun a ha => h.rf a (s.subset ha)⟩
theorem Chain.cmp : ∀ {P : List D}, Chain P → ∀ a ∈ P, ∀ b ∈ P, a = b ∨ ltR a b ∨ ltR b a
  | p :: ps, h, a, ha, b, hb => by
    have hp := (List.pairwise_cons.mp h.lt).1
    rcases List.mem_cons.mp ha with e | e
    · rcases List.mem_cons.mp hb with e2 | e2
      · exact .inl (by rw [e, e2])
      · rw [e]; exact .inr (.inl (hp b e2))
    · rcases List.mem_cons.mp hb with e2 | e2
      · rw [e2]; exact .inr (.inr (hp a e))
      · exact Chain.cmp h.tail a e b e2
theorem Chain.eq {P : List D} (h : Chain P) {a b : D} (ha : a ∈ P) (hb : b ∈ P) (e : eqT a b = true) : a = b := by
  rcases h.cmp a ha b hb with r | r | r
  · exact r
  · rw [r.2.2.1] at e; cases e
  · rw [r.2.2.2] at e; cases e
theorem Chain.nd {P : List D} (h : Chain P) : P.Nodup := h.lt.imp_of_mem fun {a b} ha hb r e => by
  subst e
  have := r.1
  rw [(h.rf a ha).2] at this
  cases this
theorem ins_sub {P : List D} {y : D} : ∀ {l : List D}, Chain P → l.Sublist P → y ∈ P → y ∉ l → (insT y l).Sublist P := by
  intro l C s
  induction s with
  | slnil => intro h; cases h
  | @cons l ps p s ih =>
    intro hy hn
    have hp := (List.pairwise_cons.mp C.lt).1
    rcases List.mem_cons.mp hy with e | e
    · subst e
      have : insT y l = y :: l := by
        cases l with
        | nil => rfl
        | cons z r =>
          have := (hp z (s.subset (List.mem_cons_self ..))).2.1
          simp only [insT, this, Bool.false_eq_true, if_false]
      rw [this]
      exact List.Sublist.cons_cons _ s
    · exact List.Sublist.cons _ (ih C.tail e hn)
  | @cons_cons l ps p s ih =>
    intro hy hn
    have hp := (List.pairwise_cons.mp C.lt).1
    rcases List.mem_cons.mp hy with e | e
    · exact absurd (List.mem_cons.mpr (.inl e)) hn
    · have := (hp y e).1
      have e2 : insT y (p :: l) = p :: insT y l := by simp only [insT, this, if_true]
      rw [e2]
      exact List.Sublist.cons_cons _ (ih C.tail e fun h => hn (List.mem_cons_of_mem _ h))
theorem sort_sub {P : List D} (C : Chain P) : ∀ {l : List D}, l.Nodup → (∀ x ∈ l, x ∈ P) → (sortT l).Sublist P
  | [], _, _ => List.nil_sublist _
  | x :: l, hn, h => by
    have hn' := List.nodup_cons.mp hn
    unfold sortT
    exact ins_sub C (sort_sub C hn'.2 fun y hy => h y (List.mem_cons_of_mem _ hy)) (h x (List.mem_cons_self ..)) fun z => hn'.1 (mem_sortT.mp z)
theorem dedup_id : ∀ {l : List D}, Chain l → dedupT l = l
  | [], _ => rfl
  | x :: l, C => by
    have hp := (List.pairwise_cons.mp C.lt).1
    have : l.any (eqT x) = false := by
      rw [List.any_eq_false]
      intro y hy
      rw [(hp y hy).2.2.1]; simp
    simp only [dedupT, this, Bool.false_eq_true, if_false, dedup_id C.tail]
theorem sort_id : ∀ {l : List D}, Chain l → sortT l = l
  | [], _ => rfl
  | x :: l, C => by
    have hp := (List.pairwise_cons.mp C.lt).1
    simp only [sortT, sort_id C.tail]
    cases l with
    | nil => rfl
    | cons z r =>
      have := (hp z (List.mem_cons_self ..)).2.1
      simp only [insT, this, Bool.false_eq_true, if_false]
theorem eqTs_rf : ∀ {l : List D}, (∀ a ∈ l, eqT a a = true) → eqTs l l = true
  | [], _ => rfl
  | x :: l, h => by simp only [eqTs, h x (List.mem_cons_self ..), eqTs_rf fun y hy => h y (List.mem_cons_of_mem _ hy), Bool.and_self]
theorem asc_of_sub {P xs : List D} (C : Chain P) (s : xs.Sublist P) : ascD xs = true := by
  have c := C.sub s
  unfold ascD
  rw [dedup_id c, sort_id c]
  exact eqTs_rf fun a ha => (c.rf a ha).1
theorem dedup_nd {P : List D} (C : Chain P) : ∀ {l : List D}, (∀ x ∈ l, x ∈ P) → (dedupT l).Nodup
  | [], _ => List.nodup_nil
  | x :: l, h => by
    have ih := dedup_nd C fun y hy => h y (List.mem_cons_of_mem x hy)
    unfold dedupT
    split
    · exact ih
    · rename_i hx
      refine List.nodup_cons.mpr ⟨fun hm => hx ?_, ih⟩
      rw [List.any_eq_true]
      exact ⟨x, mem_dedupT hm, (C.rf x (h x (List.mem_cons_self ..))).1⟩
theorem eqTs_eq {P : List D} (C : Chain P) : ∀ {xs ys : List D}, (∀ x ∈ xs, x ∈ P) → (∀ x ∈ ys, x ∈ P) → eqTs xs ys = true → xs = ys
  | [], [], _, _, _ => rfl
  | [], y :: ys, _, _, h => by simp [eqTs] at h
  | x :: xs, [], _, _, h => by simp [eqTs] at h
  | x :: xs, y :: ys, hx, hy, h => by
    simp only [eqTs, Bool.and_eq_true] at h
    rw [C.eq (hx x (List.mem_cons_self ..)) (hy y (List.mem_cons_self ..)) h.1, eqTs_eq C (fun z hz => hx z (List.mem_cons_of_mem _ hz)) (fun z hz => hy z (List.mem_cons_of_mem _ hz)) h.2]
theorem sub_of_asc {P xs : List D} (C : Chain P) (h : ∀ x ∈ xs, x ∈ P) (a : ascD xs = true) : xs.Sublist P := by
  have hm : ∀ x ∈ sortT (dedupT xs), x ∈ P := fun x hx => h x (mem_dedupT (mem_sortT.mp hx))
  rw [eqTs_eq C h hm a]
  exact sort_sub C (dedup_nd C h) fun x hx => h x (mem_dedupT hx)
/-! ### ends and places -/
def pr (a b : Str) : D := .tup [.str a, .str b]
def ENDS : List D := [pr "all" "bad", pr "all" "good", pr "none" "bad", pr "none" "good", pr "some" "bad", pr "some" "good"]
def PLS : List D := PLACES.map .str
theorem chainE : Chain ENDS := chain_of (by decide +kernel)
theorem chainP : Chain PLS := chain_of (by decide +kernel)
theorem mem_ends {d : D} : pairOf RESULTS REPORTS d = true ↔ d ∈ ENDS := by
  constructor
  · intro h
    obtain ⟨a, b, rfl, ha, hb⟩ := pairOf_tup h
    have ha : a ∈ RESULTS := by simpa using ha
    have hb : b ∈ REPORTS := by simpa using hb
    simp only [RESULTS, REPORTS, List.mem_cons, List.not_mem_nil, or_false] at ha hb
    rcases ha with rfl | rfl | rfl <;> rcases hb with rfl | rfl <;> simp [ENDS, pr]
  · intro h
    simp only [ENDS, List.mem_cons, List.not_mem_nil, or_false] at h
    rcases h with rfl | rfl | rfl | rfl | rfl | rfl <;> decide +kernel
theorem mem_pls {d : D} : oneOf PLACES d = true ↔ d ∈ PLS := by
  constructor
  · intro h
    obtain ⟨a, rfl, ha⟩ := oneOf_str h
    have ha : a ∈ PLACES := by simpa using ha
    exact List.mem_map.mpr ⟨a, ha, rfl⟩
  · intro h
    obtain ⟨a, ha, rfl⟩ := List.mem_map.mp h
    show PLACES.contains a = true
    simpa using ha
theorem areEnds_iff {d : D} : areEnds d = true ↔ ∃ xs, d = .tup xs ∧ xs.Sublist ENDS := by
  constructor
  · intro h
    cases d with
    | tup xs =>
      simp only [areEnds, Bool.and_eq_true, List.all_eq_true] at h
      exact ⟨xs, rfl, sub_of_asc chainE (fun x hx => mem_ends.mp (h.1 x hx)) h.2⟩
    | _ => cases h
  · rintro ⟨xs, rfl, s⟩
    simp only [areEnds, Bool.and_eq_true, List.all_eq_true]
    exact ⟨fun x hx => mem_ends.mpr (s.subset hx), asc_of_sub chainE s⟩
theorem areSeen_iff {d : D} : areSeen d = true ↔ ∃ xs, d = .tup xs ∧ xs.Sublist PLS := by
  constructor
  · intro h
    cases d with
    | tup xs =>
      simp only [areSeen, Bool.and_eq_true, List.all_eq_true] at h
      exact ⟨xs, rfl, sub_of_asc chainP (fun x hx => mem_pls.mp (h.1 x hx)) h.2⟩
    | _ => cases h
  · rintro ⟨xs, rfl, s⟩
    simp only [areSeen, Bool.and_eq_true, List.all_eq_true]
    exact ⟨fun x hx => mem_pls.mpr (s.subset hx), asc_of_sub chainP s⟩
/-- all ways to leave items out, in this order -/
def subsB (P : List D) : List (List D) := P.foldl (fun f one => f ++ f.map fun s => s ++ [one]) [[]]
theorem mem_subsB {P xs : List D} : xs ∈ subsB P ↔ xs.Sublist P := by
  have key : ∀ (n : Nat) (P : List D), P.length = n → ∀ xs, xs ∈ subsB P ↔ xs.Sublist P := by
    intro n
    induction n with
    | zero =>
      intro P hP xs
      have : P = [] := List.length_eq_zero_iff.mp hP
      subst this
      simp [subsB]
    | succ n ih =>
      intro P hP xs
      have hne : P ≠ [] := fun e => by subst e; cases hP
      obtain ⟨Q, q, rfl⟩ : ∃ Q q, P = Q ++ [q] := ⟨P.dropLast, P.getLast hne, (List.dropLast_concat_getLast hne).symm⟩
      have hQ : Q.length = n := by simpa using hP
      have e : subsB (Q ++ [q]) = subsB Q ++ (subsB Q).map fun s => s ++ [q] := by
        unfold subsB
        rw [List.foldl_append]
        rfl
      rw [e, List.mem_append, List.mem_map]
      constructor
      · rintro (h | ⟨s, h, rfl⟩)
        · exact ((ih Q hQ xs).mp h).trans (List.sublist_append_left _ _)
        · exact ((ih Q hQ s).mp h).append (.refl _)
      · intro h
        obtain ⟨a, b, rfl, ha, hb⟩ := List.sublist_append_iff.mp h
        have hb' : b = [] ∨ b = [q] := by
          cases hb with
          | cons _ h => exact .inl (List.sublist_nil.mp h)
          | cons_cons _ h => exact .inr (by rw [List.sublist_nil.mp h])
        rcases hb' with rfl | rfl
        · left
          rw [List.append_nil]
          exact (ih Q hQ a).mpr ha
        · right
          exact ⟨a, (ih Q hQ a).mpr ha, rfl⟩
  exact key _ P rfl xs
end FT
end

section
set_option Elab.async false
set_option linter.all false
set_option maxRecDepth 100000
set_option autoImplicit false
/-! FT.PLh: drawn cells and logs. -/
namespace FT
open PySem
section
variable {T : Tab} {n : Nat} {S : Store} {p : Nat}
theorem draw_in (h : PenT T) {m : MO} {b : Nat} {u : Int} {B : Store} (hp : p < S.length) (hm : Pen b m) (hb : b < 2 ^ 59) (h0 : 0 < u) (h1 : u < 2 ^ 60) :
    ∃ k m', Run T (n + 4) "_law_draw" [.obj p, .int u] (S.set p m ++ B) = .ok (.int k) (S.set p m' ++ B) ∧ Pen (b + 1) m' ∧ 0 ≤ k ∧ k < u := by
  have hp' : p < (S.set p m).length := by simpa using hp
  obtain ⟨k, m', e, r⟩ := run_draw (n := n) (u := u) h (get_app_lt (B := B) (List.getElem?_set_self hp)) hm hb h0 h1
  rw [set_app_lt hp', List.set_set] at e
  exact ⟨k, m', e, r⟩
theorem run_cell (h : PenT T) (h2 : T.defs "_law_cell" = some d__law_cell) {m : MO} {b : Nat} (hS : S[p]? = some m) (hm : Pen b m) (hb : b < 2 ^ 58) :
    ∃ x y m', Run T (n + 5) "_law_cell" [.obj p] S = .ok (pr x y) (S.set p m') ∧ Pen (b + 2) m' ∧ x ∈ PLACES ∧ y ∈ WORDS := by
  rw [Run_def h2 rfl]
  obtain ⟨k, m1, e1, hm1, k0, k1⟩ := run_draw (n := n) (u := 4) h hS hm (by omega) (by decide) (by decide)
  have hS1 := get_set (m := m1) hS
  obtain ⟨k2, m2, e2, hm2, j0, j1⟩ := run_draw (n := n) (u := 4) h hS1 hm1 (by omega) (by decide) (by decide)
  obtain ⟨x, hx, ex⟩ := atI_lt (xs := ([.str "new", .str "going", .str "kept", .str "gone"] : List D)) k0 k1
  obtain ⟨y, hy, ey⟩ := atI_lt (xs := ([.str "", .str "", .str "yes", .str "no"] : List D)) j0 j1
  rw [List.set_set] at e2
  simp only [runD, execs, exec, ev, evs, evAnd, evOr, evIfs, evO, evI, testR, R.bind_ok, R.bind_ex, R.ofO_some, R.ofO_none, rget0, rgetS, asgT, asgTs, lenTs, truD_bl, tru_non, tru_tup, tru_lst, backR_rt, backR_nx, backR_ex, List.length_cons, List.length_nil, List.map_cons, List.map_nil, List.replicate_zero, List.replicate_succ, List.cons_append, List.nil_append, List.append_nil, List.set_cons_zero, List.set_cons_succ, if_true, if_false, Bool.false_eq_true, Bool.true_eq_false, Nat.reduceSub, Nat.reduceAdd, Nat.zero_add, Nat.sub_self, cxN_glob, cxN_exc, Option.map_some, Option.bind_some, K.d, Bool.not_true, Bool.not_false, Option.some.injEq, beq_self_eq_true, Nat.reduceEqDiff, eq_self, Nat.reduceBEq, Bool.or_false, Bool.false_or, Bool.or_true, Bool.true_or, Bool.or_self, Bool.and_self, Bool.and_true, Bool.true_and, Bool.and_false, Bool.false_and, callB_len, callB_repr, callB_all, callB_any, callB_int, callB_tuple, callB_list, callB_isi, callB_min2, isi_non, isi_bl, isi_int, isi_str, isi_tup, isi_lst, isi_dct, len_tup, len_lst, seq_tup, seq_lst, lst_lst, tru_bool, newL_fro, liven_false, cmp_eqI, cmp_neI, cmp_eqS, cmp_neS, cmp_lt, cmp_le, cmp_gt, cmp_ge, cmp_in_tup, cmp_in_lst, cmp_nin_tup, cmp_nin_lst, bin_add, bin_sub, bin_mul, bin_mod, bin_div, bin_addS, bin_addT, bin_addL, meth_count, meth_index, meth_append, meth_popAt, sz_of, Nat.reduceLeDiff, Int.reduceEq, Int.reduceBEq, Int.cast_ofNat_Int, Int.reduceAdd, Int.reduceLT, d__law_cell, call_def h.draw rfl, e1, e2, sub_lst, ex, ey, backR_rt_set]
  have hx' : ∃ s, x = .str s ∧ s ∈ PLACES := by
    simp only [List.mem_cons, List.not_mem_nil, or_false] at hx
    rcases hx with rfl | rfl | rfl | rfl <;> exact ⟨_, rfl, by simp [PLACES]⟩
  have hy' : ∃ s, y = .str s ∧ s ∈ WORDS := by
    simp only [List.mem_cons, List.not_mem_nil, or_false] at hy
    rcases hy with rfl | rfl | rfl | rfl <;> exact ⟨_, rfl, by simp [WORDS]⟩
  obtain ⟨s, rfl, hs⟩ := hx'
  obtain ⟨t, rfl, ht⟩ := hy'
  exact ⟨s, t, m2, rfl, hm2, hs, ht⟩
theorem cell_in (h : PenT T) (h2 : T.defs "_law_cell" = some d__law_cell) {m : MO} {b : Nat} {B : Store} (hp : p < S.length) (hm : Pen b m) (hb : b < 2 ^ 58) :
    ∃ x y m', Run T (n + 5) "_law_cell" [.obj p] (S.set p m ++ B) = .ok (pr x y) (S.set p m' ++ B) ∧ Pen (b + 2) m' ∧ x ∈ PLACES ∧ y ∈ WORDS := by
  have hp' : p < (S.set p m).length := by simpa using hp
  obtain ⟨x, y, m', e, r⟩ := run_cell (n := n) h h2 (get_app_lt (B := B) (List.getElem?_set_self hp)) hm hb
  rw [set_app_lt hp', List.set_set] at e
  exact ⟨x, y, m', e, r⟩
theorem some_in (h : PenT T) (h2 : T.defs "_law_some" = some d__law_some) {m : MO} {b : Nat} {pool : D} {ps : List D} {most : Nat} {B : Store} (hp : p < S.length) (hm : Pen b m) (hb : b + most < 2 ^ 58) (hc : Closed (S.set p m ++ B)) (hpool : seqD (S.set p m ++ B) pool = some ps) (ht : ∀ x ∈ ps, topD x = 0) (hz : ps.length ≤ 1000) :
    ∃ xs rest m', Run T (n + 6) "_law_some" [.obj p, pool, .int most] (S.set p m ++ B) = .ok (.lst xs) (S.set p m' ++ B) ∧ Pen (b + 1 + most) m' ∧ (xs ++ rest).Perm ps ∧ xs.length ≤ most := by
  have hp' : p < (S.set p m).length := by simpa using hp
  obtain ⟨x, y, m', e, r⟩ := run_some (n := n) h h2 (get_app_lt (B := B) (List.getElem?_set_self hp)) hm hb hc hpool ht hz
  rw [set_app_lt hp', List.set_set] at e
  exact ⟨x, y, m', e, r⟩
theorem set_same {m : MO} (h : S[p]? = some m) : S.set p m = S := by
  obtain ⟨hp, e⟩ := List.getElem?_eq_some_iff.mp h
  rw [← e, List.set_getElem_self]
theorem forL_inv {f : D → Env → Store → RF} (N : Nat) (I : Nat → Env → Store → Prop) : ∀ (ds : List D) (i : Nat) (ρ : Env) (S : Store), i + ds.length = N → I i ρ S →
    (∀ d ∈ ds, ∀ j ρ S, j < N → I j ρ S → ∃ ρ' S', f d ρ S = .ok (.nx, ρ') S' ∧ I (j + 1) ρ' S') → ∃ ρ' S', forL f ds ρ S = .ok (.nx, ρ') S' ∧ I N ρ' S'
  | [], i, ρ, S, hN, h, _ => ⟨ρ, S, rfl, by simp only [List.length_nil, Nat.add_zero] at hN; rw [← hN]; exact h⟩
  | d :: ds, i, ρ, S, hN, h, st => by
    simp only [List.length_cons] at hN
    obtain ⟨ρ1, S1, e1, h1⟩ := st d (List.mem_cons_self ..) i ρ S (by omega) h
    obtain ⟨ρ2, S2, e2, h2⟩ := forL_inv N I ds (i + 1) ρ1 S1 (by omega) h1 fun d hd => st d (List.mem_cons_of_mem _ hd)
    exact ⟨ρ2, S2, by simp only [forL, e1, R.bind_ok, e2], h2⟩
def cellP (d : D) : Prop := ∃ x y, d = pr x y ∧ x ∈ PLACES ∧ y ∈ WORDS
theorem cellP_iff {d : D} : cellP d ↔ isCell d = true := by
  constructor
  · rintro ⟨x, y, rfl, hx, hy⟩
    simp only [isCell, pairOf, pr, oneOf, Bool.and_eq_true]
    exact ⟨by simpa using hx, by simpa using hy⟩
  · intro h
    obtain ⟨a, b, rfl, ha, hb⟩ := pairOf_tup h
    exact ⟨a, b, rfl, by simpa using ha, by simpa using hb⟩
def logOf (w : Str) (c0 c1 c2 c3 c4 c5 : D) (l0 l1 : Str) (ends : List D) (st : Bool) (seen : List D) : D :=
  .tup [.tup [.str w, .tup [c0, c1], .tup [c2, c3], .tup [c4, c5]], .tup [.str l0, .str l1], .tup ends, .bl st, .tup seen]
structure LogP (size : Nat) (d : D) : Prop where
  ex : ∃ w c0 c1 c2 c3 c4 c5 l0 l1 ends st seen, d = logOf w c0 c1 c2 c3 c4 c5 l0 l1 ends st seen ∧ w ∈ WORDS ∧ cellP c0 ∧ cellP c1 ∧ cellP c2 ∧ cellP c3 ∧ cellP c4 ∧ cellP c5 ∧ l0 ∈ LEADS ∧ l1 ∈ LEADS ∧ ends.Sublist ENDS ∧ ends.length ≤ size ∧ seen.Sublist PLS
theorem ords_ends {xs : List D} (h : ∀ x ∈ xs, x ∈ ENDS) (hl : xs.length < 64) : Ords xs := by
  refine ords_pairs okR okQ ?_ ?_ hl
  · rw [wfDs_all, List.all_eq_true]
    intro x hx
    have : ∀ y ∈ ENDS, wfD y = true := by rw [← List.all_eq_true]; decide +kernel
    exact this x (h x hx)
  · rw [List.all_eq_true]
    exact fun x hx => mem_ends.mpr (h x hx)
theorem ords_pls {xs : List D} (h : ∀ x ∈ xs, x ∈ PLS) (hl : xs.length < 64) : Ords xs := by
  refine ords_strs okP ?_ ?_ hl
  · rw [wfDs_all, List.all_eq_true]
    intro x hx
    have : ∀ y ∈ PLS, wfD y = true := by rw [← List.all_eq_true]; decide +kernel
    exact this x (h x hx)
  · rw [List.all_eq_true]
    exact fun x hx => mem_pls.mpr (h x hx)
theorem callB_sorted {xs : List D} (o : Ords xs) : callBD .sorted false [.lst xs] S = .ok (.lst (sortT xs)) S := by
  show (if ordAll xs then newL false (sortT xs) S else .bad) = _
  rw [o.all.1]
  have := o.short
  exact newL_fro (by rw [length_sortT]; omega)
theorem in_pool {P ys : List D} {x : D} (C : Chain P) (hf : ∀ y ∈ P, fitT y = true ∧ wfD y = true) (hx : x ∈ P) (hy : ∀ y ∈ ys, y ∈ P) : ∃ bb, inL S x ys = some bb ∧ (bb = true ↔ x ∈ ys) := by
  have ha : fitAll S ys = true := by
    unfold fitAll
    rw [List.all_eq_true]
    intro y m
    rw [resD_wf (hf y (hy y m)).2]
    exact (hf y (hy y m)).1
  refine ⟨_, by unfold inL; rw [ha, resD_wf (hf x hx).2, (hf x hx).1]; rfl, ?_⟩
  rw [List.any_eq_true]
  constructor
  · rintro ⟨y, m, e⟩
    rw [resD_wf (hf y (hy y m)).2] at e
    rw [← C.eq (hy y m) hx e]
    exact m
  · intro m
    exact ⟨x, m, by rw [resD_wf (hf x hx).2]; exact (C.rf x hx).1⟩
theorem fit_ends : ∀ y ∈ ENDS, fitT y = true ∧ wfD y = true := by
  have : ENDS.all (fun y => fitT y && wfD y) = true := by decide +kernel
  intro y hy
  simpa using List.all_eq_true.mp this y hy
theorem fit_pls : ∀ y ∈ PLS, fitT y = true ∧ wfD y = true := by
  have : PLS.all (fun y => fitT y && wfD y) = true := by decide +kernel
  intro y hy
  simpa using List.all_eq_true.mp this y hy
theorem cutL_to {α : Type} {xs : List α} {k : Nat} : cutL xs none (some (k : Int)) = xs.take k := by
  unfold cutL
  have e0 : HT.sIx xs.length 0 none = 0 := rfl
  have e1 : HT.sIx xs.length xs.length (some (k : Int)) = min k xs.length := by
    show (if (k : Int) < 0 then ((k : Int) + (xs.length : Int)).toNat else min (k : Int).toNat xs.length) = _
    rw [if_neg (by omega), Int.toNat_natCast]
  rw [e0, e1, List.drop_zero, Nat.sub_zero]
  by_cases h : k ≤ xs.length
  · rw [Nat.min_eq_left h]
  · rw [Nat.min_eq_right (by omega), List.take_length, List.take_of_length_le (by omega)]
theorem tuple_lst {xs : List D} : tupleD S (.lst xs) = some (.tup xs) := rfl
structure DrawT (T : Tab) : Prop extends PenT T where
  sm : T.defs "_law_some" = some d__law_some
  cell : T.defs "_law_cell" = some d__law_cell
theorem mem_words {y : D} (h : y ∈ ([.str "", .str "", .str "", .str "yes", .str "no"] : List D)) : ∃ s, y = .str s ∧ s ∈ WORDS := by
  simp only [List.mem_cons, List.not_mem_nil, or_false] at h
  rcases h with rfl | rfl | rfl | rfl | rfl <;> exact ⟨_, rfl, by simp [WORDS]⟩
theorem mem_leads {y : D} (h : y ∈ ([.str "free", .str "next", .str "stay", .str "next"] : List D)) : ∃ s, y = .str s ∧ s ∈ LEADS := by
  simp only [List.mem_cons, List.not_mem_nil, or_false] at h
  rcases h with rfl | rfl | rfl | rfl <;> exact ⟨_, rfl, by simp [LEADS]⟩
theorem slice_obj {q : Nat} {xs : List D} {lo hi : Option Int} (h : S[q]? = some (.lst xs)) : sliceD S (.obj q) lo hi = some (.lst (cutL xs lo hi)) := by
  show (lstD S (.obj q)).map _ = _
  rw [lst_obj h]; rfl
theorem slice_lst {xs : List D} {lo hi : Option Int} : sliceD S (.lst xs) lo hi = some (.lst (cutL xs lo hi)) := rfl
theorem perm_sub {xs rest P : List D} (h : (xs ++ rest).Perm P) : ∀ x ∈ xs, x ∈ P := fun x hx => h.subset (List.mem_append_left _ hx)
theorem perm_nd {xs rest P : List D} (h : (xs ++ rest).Perm P) (hn : P.Nodup) : xs.Nodup := (List.nodup_append.mp (h.nodup_iff.mpr hn)).1
theorem cmp_nin_any {x : D} {ys : List D} {xs : List D} (h : x = .tup xs) : cmpD .NotIn x (.lst ys) S = (inL S x ys).map not := by
  subst h; rfl
theorem log4 (h : DrawT T) {m : MO} {b size : Nat} {plain : List D} {o3 : Option D} (hp : p < S.length) (hm : Pen b m) (hb : b < 2 ^ 57) (hc : Closed S) (hs0 : 1 ≤ size) (hs : size ≤ 6) (h6 : plain.length = 6) (hcells : ∀ c ∈ plain, cellP c) :
    ∃ log ρ' m', execs (cxN T (n + 4)) d__law_log_t3 [some (.obj p), some (.int size), some (.obj S.length), o3, none, none, none, none, none] (S.set p m ++ [.lst plain]) = .ok (.rt log, ρ') (S.set p m' ++ [.lst plain]) ∧ Pen (b + 30) m' ∧ LogP size log := by
  match plain, h6 with
  | [c0, c1, c2, c3, c4, c5], _ =>
  have hq : ∀ m', (S.set p m' ++ [MO.lst [c0, c1, c2, c3, c4, c5]])[S.length]? = some (.lst [c0, c1, c2, c3, c4, c5]) := fun m' => get_app_self (by simp)
  obtain ⟨k1, m1, e1, hm1, k10, k11⟩ := draw_in (n := n + 2) (u := 5) (B := [.lst [c0, c1, c2, c3, c4, c5]]) h.toPenT hp hm (by omega) (by decide) (by decide)
  obtain ⟨w0, hw0, ew⟩ := atI_lt (xs := ([.str "", .str "", .str "", .str "yes", .str "no"] : List D)) k10 k11
  obtain ⟨w, rfl, hw⟩ := mem_words hw0
  obtain ⟨k2, m2, e2, hm2, k20, k21⟩ := draw_in (n := n + 2) (u := 4) (B := [.lst [c0, c1, c2, c3, c4, c5]]) h.toPenT hp hm1 (by omega) (by decide) (by decide)
  obtain ⟨l00, hl00, el0⟩ := atI_lt (xs := ([.str "free", .str "next", .str "stay", .str "next"] : List D)) k20 k21
  obtain ⟨l0, rfl, hl0⟩ := mem_leads hl00
  obtain ⟨k3, m3, e3, hm3, k30, k31⟩ := draw_in (n := n + 2) (u := 4) (B := [.lst [c0, c1, c2, c3, c4, c5]]) h.toPenT hp hm2 (by omega) (by decide) (by decide)
  obtain ⟨l10, hl10, el1⟩ := atI_lt (xs := ([.str "free", .str "next", .str "stay", .str "next"] : List D)) k30 k31
  obtain ⟨l1, rfl, hl1⟩ := mem_leads hl10
  have cl : ∀ {b' : Nat} {m' : MO}, Pen b' m' → Closed (S.set p m' ++ [MO.lst [c0, c1, c2, c3, c4, c5]]) := fun {b' m'} hm' o ho => by
    rcases List.mem_append.mp ho with e | e
    · have := hc.set (p := p) (m := m') (by rw [hm'.top]; omega) o e
      rw [List.length_append]
      exact Nat.le_trans this (Nat.le_add_right _ _)
    · rw [List.mem_singleton.mp e]
      have t0 : ∀ c ∈ [c0, c1, c2, c3, c4, c5], topD c = 0 := fun c hc => by
        obtain ⟨x, y, rfl, _⟩ := hcells c hc
        rfl
      show topDs _ ≤ _
      rw [topDs_zero t0]; omega
  obtain ⟨en, re, m4, e4, hm4, pe, le⟩ := some_in (n := n) (pool := .lst ENDS) (ps := ENDS) (most := size) (B := [.lst [c0, c1, c2, c3, c4, c5]]) h.toPenT h.sm hp hm3 (by omega) (cl hm3) rfl (by decide) (by decide)
  obtain ⟨k5, m5, e5, hm5, k50, k51⟩ := draw_in (n := n + 2) (u := 2) (B := [.lst [c0, c1, c2, c3, c4, c5]]) h.toPenT hp hm4 (by omega) (by decide) (by decide)
  obtain ⟨se, rs, m6, e6, hm6, ps, ls⟩ := some_in (n := n) (pool := .lst PLS) (ps := PLS) (most := 4) (B := [.lst [c0, c1, c2, c3, c4, c5]]) h.toPenT h.sm hp hm5 (by omega) (cl hm5) rfl (by decide) (by decide)
  obtain ⟨k7, m7, e7, hm7, k70, k71⟩ := draw_in (n := n + 2) (u := 3) (B := [.lst [c0, c1, c2, c3, c4, c5]]) h.toPenT hp hm6 (by omega) (by decide) (by decide)
  obtain ⟨bb, ebb, hbb⟩ := in_pool (S := S.set p m5 ++ [.lst [c0, c1, c2, c3, c4, c5]]) chainE fit_ends (show pr "all" "good" ∈ ENDS by simp [ENDS]) (perm_sub pe)
  have r2 : rangeD 0 (Int.toNat 2) = [.int 0, .int 1] := rfl
  have f1 : cutL [c0, c1, c2, c3, c4, c5] none (some 2) = [c0, c1] := rfl
  have f2 : cutL [c0, c1, c2, c3, c4, c5] (some 2) (some 4) = [c2, c3] := rfl
  have f3 : cutL [c0, c1, c2, c3, c4, c5] (some 4) none = [c4, c5] := rfl
  have ecut : cutL en none (some ((size : Int) - 1)) = en.take (size - 1) := by
    have : (size : Int) - 1 = ((size - 1 : Nat) : Int) := by omega
    rw [this, cutL_to]
  have osee := ords_pls (perm_sub ps) (by omega)
  have csee : (sortT se).length ≤ 1000000 := by rw [length_sortT]; omega
  -- what stands at last
  have fin : ∀ en' : List D, (∀ x ∈ en', x ∈ ENDS) → en'.Nodup → en'.length ≤ size → LogP size (logOf w c0 c1 c2 c3 c4 c5 l0 l1 (sortT en') (decide (0 < k7)) (sortT se)) := fun en' he hn hl => by
    refine ⟨w, c0, c1, c2, c3, c4, c5, l0, l1, _, _, _, rfl, hw, hcells _ (by simp), hcells _ (by simp), hcells _ (by simp), hcells _ (by simp), hcells _ (by simp), hcells _ (by simp), hl0, hl1, sort_sub chainE hn he, by rw [length_sortT]; exact hl, sort_sub chainP (perm_nd ps chainP.nd) (perm_sub ps)⟩
  have hENDS : ([.tup [.str "all", .str "bad"], .tup [.str "all", .str "good"], .tup [.str "none", .str "bad"], .tup [.str "none", .str "good"], .tup [.str "some", .str "bad"], .tup [.str "some", .str "good"]] : List D) = ENDS := rfl
  have hPLS : ([.str "going", .str "gone", .str "kept", .str "new"] : List D) = PLS := rfl
  simp only [Int.cast_ofNat_Int] at e6
  have lE : ENDS.length = 6 := rfl
  have lP : PLS.length = 4 := rfl
  have hpr : (.tup [.str "all", .str "good"] : D) = pr "all" "good" := rfl
  have ebb2 : ∀ S', inL S' (pr "all" "good") en = inL (S.set p m5 ++ [.lst [c0, c1, c2, c3, c4, c5]]) (pr "all" "good") en := fun S' => by
    have hh := fun (S : Store) => in_pool (S := S) chainE fit_ends (show pr "all" "good" ∈ ENDS by simp [ENDS]) (perm_sub pe)
    obtain ⟨b1, i1, j1⟩ := hh S'
    obtain ⟨b2, i2, j2⟩ := hh (S.set p m5 ++ [.lst [c0, c1, c2, c3, c4, c5]])
    rw [i1, i2]
    congr 1
    rw [Bool.eq_iff_iff, j1, j2]
  simp only [runD, execs, exec, ev, evs, evAnd, evOr, evIfs, evO, evI, testR, R.bind_ok, R.bind_ex, R.ofO_some, R.ofO_none, rget0, rgetS, asgT, asgTs, lenTs, truD_bl, tru_non, tru_tup, tru_lst, backR_rt, backR_nx, backR_ex, List.length_cons, List.length_nil, List.map_cons, List.map_nil, List.replicate_zero, List.replicate_succ, List.cons_append, List.nil_append, List.append_nil, List.set_cons_zero, List.set_cons_succ, if_true, if_false, Bool.false_eq_true, Bool.true_eq_false, Nat.reduceSub, Nat.reduceAdd, Nat.zero_add, Nat.sub_self, cxN_glob, cxN_exc, Option.map_some, Option.bind_some, K.d, Bool.not_true, Bool.not_false, Option.some.injEq, beq_self_eq_true, Nat.reduceEqDiff, eq_self, Nat.reduceBEq, Bool.or_false, Bool.false_or, Bool.or_true, Bool.true_or, Bool.or_self, Bool.and_self, Bool.and_true, Bool.true_and, Bool.and_false, Bool.false_and, callB_len, callB_repr, callB_all, callB_any, callB_int, callB_tuple, callB_list, callB_isi, callB_min2, isi_non, isi_bl, isi_int, isi_str, isi_tup, isi_lst, isi_dct, len_tup, len_lst, seq_tup, seq_lst, lst_lst, tru_bool, newL_fro, liven_false, cmp_eqI, cmp_neI, cmp_eqS, cmp_neS, cmp_lt, cmp_le, cmp_gt, cmp_ge, cmp_in_tup, cmp_in_lst, cmp_nin_tup, cmp_nin_lst, bin_add, bin_sub, bin_mul, bin_mod, bin_div, bin_addS, bin_addT, bin_addL, meth_count, meth_index, meth_append, meth_popAt, sz_of, Nat.reduceLeDiff, Int.reduceEq, Int.reduceBEq, Int.cast_ofNat_Int, Int.reduceAdd, Int.reduceLT, d__law_log_t3, d__law_log_s3, d__law_log_t4, d__law_log_s4, d__law_log_t5, d__law_log_s5, d__law_log_t6, d__law_log_s6, d__law_log_t7, d__law_log_s7, d__law_log_t8, d__law_log_s8, d__law_log_t9, d__law_log_s9, call_def h.draw rfl, e1, sub_lst, ew, slice_obj (hq m1), f1, f2, f3, tuple_lst, r2, compL, noxR, bindE, wipeE, el0, e2, e3, el1, Int.reduceNeg, Int.reducePow, Int.reduceLE, Int.reduceLT, and_self, call_def h.sm rfl]
  simp only [hENDS, hPLS, e4]
  simp only [runD, execs, exec, ev, evs, evAnd, evOr, evIfs, evO, evI, testR, R.bind_ok, R.bind_ex, R.ofO_some, R.ofO_none, rget0, rgetS, asgT, asgTs, lenTs, truD_bl, tru_non, tru_tup, tru_lst, backR_rt, backR_nx, backR_ex, List.length_cons, List.length_nil, List.map_cons, List.map_nil, List.replicate_zero, List.replicate_succ, List.cons_append, List.nil_append, List.append_nil, List.set_cons_zero, List.set_cons_succ, if_true, if_false, Bool.false_eq_true, Bool.true_eq_false, Nat.reduceSub, Nat.reduceAdd, Nat.zero_add, Nat.sub_self, cxN_glob, cxN_exc, Option.map_some, Option.bind_some, K.d, Bool.not_true, Bool.not_false, Option.some.injEq, beq_self_eq_true, Nat.reduceEqDiff, eq_self, Nat.reduceBEq, Bool.or_false, Bool.false_or, Bool.or_true, Bool.true_or, Bool.or_self, Bool.and_self, Bool.and_true, Bool.true_and, Bool.and_false, Bool.false_and, callB_len, callB_repr, callB_all, callB_any, callB_int, callB_tuple, callB_list, callB_isi, callB_min2, isi_non, isi_bl, isi_int, isi_str, isi_tup, isi_lst, isi_dct, len_tup, len_lst, seq_tup, seq_lst, lst_lst, tru_bool, newL_fro, liven_false, cmp_eqI, cmp_neI, cmp_eqS, cmp_neS, cmp_lt, cmp_le, cmp_gt, cmp_ge, cmp_in_tup, cmp_in_lst, cmp_nin_tup, cmp_nin_lst, bin_add, bin_sub, bin_mul, bin_mod, bin_div, bin_addS, bin_addT, bin_addL, meth_count, meth_index, meth_append, meth_popAt, sz_of, Nat.reduceLeDiff, Int.reduceEq, Int.reduceBEq, Int.cast_ofNat_Int, Int.reduceAdd, Int.reduceLT, e5]
  have hbr : (k5 == 0) = true ∨ (k5 == 0) = false := by cases (k5 == 0) <;> simp
  have nin : ∀ S', cmpD .NotIn (.tup [.str "all", .str "good"]) (.lst en) S' = some (!bb) := fun S' => by
    rw [cmp_nin_any rfl, hpr, ebb2, ebb]; rfl
  have oen := ords_ends (perm_sub pe) (by omega)
  have cen : (sortT en).length ≤ 1000000 := by rw [length_sortT]; omega
  have finA := fin en (perm_sub pe) (perm_nd pe chainE.nd) le
  have lse : se.length ≤ 1000000 := by omega
  have hm7' := hm7.mono (show b + 1 + 1 + 1 + 1 + size + 1 + 1 + 4 + 1 ≤ b + 30 by omega)
  rcases hbr with hk | hk
  · cases bb with
    | true =>
      simp only [runD, execs, exec, ev, evs, evAnd, evOr, evIfs, evO, evI, testR, R.bind_ok, R.bind_ex, R.ofO_some, R.ofO_none, rget0, rgetS, asgT, asgTs, lenTs, truD_bl, tru_non, tru_tup, tru_lst, backR_rt, backR_nx, backR_ex, List.length_cons, List.length_nil, List.map_cons, List.map_nil, List.replicate_zero, List.replicate_succ, List.cons_append, List.nil_append, List.append_nil, List.set_cons_zero, List.set_cons_succ, if_true, if_false, Bool.false_eq_true, Bool.true_eq_false, Nat.reduceSub, Nat.reduceAdd, Nat.zero_add, Nat.sub_self, cxN_glob, cxN_exc, Option.map_some, Option.bind_some, K.d, Bool.not_true, Bool.not_false, Option.some.injEq, beq_self_eq_true, Nat.reduceEqDiff, eq_self, Nat.reduceBEq, Bool.or_false, Bool.false_or, Bool.or_true, Bool.true_or, Bool.or_self, Bool.and_self, Bool.and_true, Bool.true_and, Bool.and_false, Bool.false_and, callB_len, callB_repr, callB_all, callB_any, callB_int, callB_tuple, callB_list, callB_isi, callB_min2, isi_non, isi_bl, isi_int, isi_str, isi_tup, isi_lst, isi_dct, len_tup, len_lst, seq_tup, seq_lst, lst_lst, tru_bool, newL_fro, liven_false, cmp_eqI, cmp_neI, cmp_eqS, cmp_neS, cmp_lt, cmp_le, cmp_gt, cmp_ge, cmp_in_tup, cmp_in_lst, cmp_nin_tup, cmp_nin_lst, bin_add, bin_sub, bin_mul, bin_mod, bin_div, bin_addS, bin_addT, bin_addL, meth_count, meth_index, meth_append, meth_popAt, sz_of, Nat.reduceLeDiff, Int.reduceEq, Int.reduceBEq, Int.cast_ofNat_Int, Int.reduceAdd, Int.reduceLT, hk, nin, e6, callB_sorted osee, callB_sorted oen, tuple_lst, e7]
      exact ⟨_, _, _, rfl, hm7', finA⟩
    | false =>
      have hnot : pr "all" "good" ∉ en := fun z => by
        have := hbb.mpr z
        cases this
      have mem2 : ∀ x ∈ en.take (size - 1) ++ [pr "all" "good"], x ∈ ENDS := fun x hx => by
        rcases List.mem_append.mp hx with e | e
        · exact perm_sub pe x (List.mem_of_mem_take e)
        · rw [List.mem_singleton.mp e]; simp [ENDS]
      have nd2 : (en.take (size - 1) ++ [pr "all" "good"]).Nodup := by
        rw [List.nodup_append]
        refine ⟨(perm_nd pe chainE.nd).sublist (List.take_sublist _ _), by simp, fun a ha c hc e => ?_⟩
        rw [List.mem_singleton.mp hc] at e
        rw [e] at ha
        exact hnot (List.mem_of_mem_take ha)
      have len2 : (en.take (size - 1) ++ [pr "all" "good"]).length ≤ size := by
        rw [List.length_append, List.length_take]
        simp only [List.length_cons, List.length_nil]; omega
      have finB := fin _ mem2 nd2 len2
      have oen2 := ords_ends mem2 (by omega)
      have z2 : (en.take (size - 1)).length + 1 ≤ 1000000 := by
        rw [List.length_append] at len2
        simp only [List.length_cons, List.length_nil] at len2; omega
      simp only [runD, execs, exec, ev, evs, evAnd, evOr, evIfs, evO, evI, testR, R.bind_ok, R.bind_ex, R.ofO_some, R.ofO_none, rget0, rgetS, asgT, asgTs, lenTs, truD_bl, tru_non, tru_tup, tru_lst, backR_rt, backR_nx, backR_ex, List.length_cons, List.length_nil, List.map_cons, List.map_nil, List.replicate_zero, List.replicate_succ, List.cons_append, List.nil_append, List.append_nil, List.set_cons_zero, List.set_cons_succ, if_true, if_false, Bool.false_eq_true, Bool.true_eq_false, Nat.reduceSub, Nat.reduceAdd, Nat.zero_add, Nat.sub_self, cxN_glob, cxN_exc, Option.map_some, Option.bind_some, K.d, Bool.not_true, Bool.not_false, Option.some.injEq, beq_self_eq_true, Nat.reduceEqDiff, eq_self, Nat.reduceBEq, Bool.or_false, Bool.false_or, Bool.or_true, Bool.true_or, Bool.or_self, Bool.and_self, Bool.and_true, Bool.true_and, Bool.and_false, Bool.false_and, callB_len, callB_repr, callB_all, callB_any, callB_int, callB_tuple, callB_list, callB_isi, callB_min2, isi_non, isi_bl, isi_int, isi_str, isi_tup, isi_lst, isi_dct, len_tup, len_lst, seq_tup, seq_lst, lst_lst, tru_bool, newL_fro, liven_false, cmp_eqI, cmp_neI, cmp_eqS, cmp_neS, cmp_lt, cmp_le, cmp_gt, cmp_ge, cmp_in_tup, cmp_in_lst, cmp_nin_tup, cmp_nin_lst, bin_add, bin_sub, bin_mul, bin_mod, bin_div, bin_addS, bin_addT, bin_addL, meth_count, meth_index, meth_append, meth_popAt, sz_of, Nat.reduceLeDiff, Int.reduceEq, Int.reduceBEq, Int.cast_ofNat_Int, Int.reduceAdd, Int.reduceLT, hk, nin, slice_lst, ecut, z2]
      simp only [hpr, callB_sorted oen2, runD, execs, exec, ev, evs, evAnd, evOr, evIfs, evO, evI, testR, R.bind_ok, R.bind_ex, R.ofO_some, R.ofO_none, rget0, rgetS, asgT, asgTs, lenTs, truD_bl, tru_non, tru_tup, tru_lst, backR_rt, backR_nx, backR_ex, List.length_cons, List.length_nil, List.map_cons, List.map_nil, List.replicate_zero, List.replicate_succ, List.cons_append, List.nil_append, List.append_nil, List.set_cons_zero, List.set_cons_succ, if_true, if_false, Bool.false_eq_true, Bool.true_eq_false, Nat.reduceSub, Nat.reduceAdd, Nat.zero_add, Nat.sub_self, cxN_glob, cxN_exc, Option.map_some, Option.bind_some, K.d, Bool.not_true, Bool.not_false, Option.some.injEq, beq_self_eq_true, Nat.reduceEqDiff, eq_self, Nat.reduceBEq, Bool.or_false, Bool.false_or, Bool.or_true, Bool.true_or, Bool.or_self, Bool.and_self, Bool.and_true, Bool.true_and, Bool.and_false, Bool.false_and, callB_len, callB_repr, callB_all, callB_any, callB_int, callB_tuple, callB_list, callB_isi, callB_min2, isi_non, isi_bl, isi_int, isi_str, isi_tup, isi_lst, isi_dct, len_tup, len_lst, seq_tup, seq_lst, lst_lst, tru_bool, newL_fro, liven_false, cmp_eqI, cmp_neI, cmp_eqS, cmp_neS, cmp_lt, cmp_le, cmp_gt, cmp_ge, cmp_in_tup, cmp_in_lst, cmp_nin_tup, cmp_nin_lst, bin_add, bin_sub, bin_mul, bin_mod, bin_div, bin_addS, bin_addT, bin_addL, meth_count, meth_index, meth_append, meth_popAt, sz_of, Nat.reduceLeDiff, Int.reduceEq, Int.reduceBEq, Int.cast_ofNat_Int, Int.reduceAdd, Int.reduceLT, e6, callB_sorted osee, tuple_lst, e7]
      exact ⟨_, _, _, rfl, hm7', finB⟩
  · simp only [runD, execs, exec, ev, evs, evAnd, evOr, evIfs, evO, evI, testR, R.bind_ok, R.bind_ex, R.ofO_some, R.ofO_none, rget0, rgetS, asgT, asgTs, lenTs, truD_bl, tru_non, tru_tup, tru_lst, backR_rt, backR_nx, backR_ex, List.length_cons, List.length_nil, List.map_cons, List.map_nil, List.replicate_zero, List.replicate_succ, List.cons_append, List.nil_append, List.append_nil, List.set_cons_zero, List.set_cons_succ, if_true, if_false, Bool.false_eq_true, Bool.true_eq_false, Nat.reduceSub, Nat.reduceAdd, Nat.zero_add, Nat.sub_self, cxN_glob, cxN_exc, Option.map_some, Option.bind_some, K.d, Bool.not_true, Bool.not_false, Option.some.injEq, beq_self_eq_true, Nat.reduceEqDiff, eq_self, Nat.reduceBEq, Bool.or_false, Bool.false_or, Bool.or_true, Bool.true_or, Bool.or_self, Bool.and_self, Bool.and_true, Bool.true_and, Bool.and_false, Bool.false_and, callB_len, callB_repr, callB_all, callB_any, callB_int, callB_tuple, callB_list, callB_isi, callB_min2, isi_non, isi_bl, isi_int, isi_str, isi_tup, isi_lst, isi_dct, len_tup, len_lst, seq_tup, seq_lst, lst_lst, tru_bool, newL_fro, liven_false, cmp_eqI, cmp_neI, cmp_eqS, cmp_neS, cmp_lt, cmp_le, cmp_gt, cmp_ge, cmp_in_tup, cmp_in_lst, cmp_nin_tup, cmp_nin_lst, bin_add, bin_sub, bin_mul, bin_mod, bin_div, bin_addS, bin_addT, bin_addL, meth_count, meth_index, meth_append, meth_popAt, sz_of, Nat.reduceLeDiff, Int.reduceEq, Int.reduceBEq, Int.cast_ofNat_Int, Int.reduceAdd, Int.reduceLT, hk, e6, callB_sorted osee, callB_sorted oen, tuple_lst, e7]
    exact ⟨_, _, _, rfl, hm7', finA⟩
theorem set_obj {q : Nat} {xs : List D} {i : Int} {v : D} (h : S[q]? = some (.lst xs)) (h0 : 0 ≤ i) (h1 : i < xs.length) : setD (.obj q) (.int i) v S = .ok () (S.set q (.lst (xs.set i.toNat v))) := by
  have e1 : L2.ixN xs.length i = some i.toNat := by
    unfold L2.ixN
    rw [if_pos h0, if_pos h1]
  simp only [setD, h, e1]
theorem execs_nx {C : Cx} {s : St} {r : Ss} {ρ ρ' : Env} {S S' : Store} (h : exec C s ρ S = .ok (.nx, ρ') S') : execs C (.cons s r) ρ S = execs C r ρ' S' := by
  simp only [execs, h, R.bind_ok]
theorem mem_set {α : Type} {l : List α} {i : Nat} {a : α} {P : α → Prop} (h : ∀ c ∈ l, P c) (ha : P a) : ∀ c ∈ l.set i a, P c := fun c hc => by
  rcases List.mem_or_eq_of_mem_set hc with e | e
  · exact h c e
  · rw [e]; exact ha
theorem log2 (h : DrawT T) {m1 : MO} {b size : Nat} {plain : List D} (hp : p < S.length) (hm1 : Pen b m1) (hb : b < 2 ^ 56) (hc : Closed S) (hs0 : 1 ≤ size) (hs : size ≤ 6) (h6 : plain.length = 6) (hcells : ∀ c ∈ plain, cellP c) :
    ∃ log ρ' m' plain', execs (cxN T (n + 4)) d__law_log_t2 [some (.obj p), some (.int size), some (.obj S.length), none, none, none, none, none, none] (S.set p m1 ++ [.lst plain]) = .ok (.rt log, ρ') (S.set p m' ++ [.lst plain']) ∧ Pen (b + 50) m' ∧ LogP size log := by
  obtain ⟨k1, m2, e1, hm2, k10, k11⟩ := draw_in (n := n + 2) (u := 5) (B := [.lst plain]) h.toPenT hp hm1 (by omega) (by decide) (by decide)
  obtain ⟨w0, hw0, ew⟩ := atI_lt (xs := ([.int 0, .int 1, .int 1, .int 2, .int 6] : List D)) k10 k11
  have hr : ∃ k : Int, w0 = .int k ∧ 0 ≤ k ∧ k ≤ 6 := by
    simp only [List.mem_cons, List.not_mem_nil, or_false] at hw0
    rcases hw0 with rfl | rfl | rfl | rfl | rfl
    all_goals exact ⟨_, rfl, by decide, by decide⟩
  obtain ⟨k, rfl, hk0, hk6⟩ := hr
  have hkc : -(2 ^ 62) ≤ k ∧ k < 2 ^ 62 := ⟨by omega, by omega⟩
  simp only [d__law_log_t2, d__law_log_s2, runD, execs, exec, ev, evs, evAnd, evOr, evIfs, evO, evI, testR, R.bind_ok, R.bind_ex, R.ofO_some, R.ofO_none, rget0, rgetS, asgT, asgTs, lenTs, truD_bl, tru_non, tru_tup, tru_lst, backR_rt, backR_nx, backR_ex, List.length_cons, List.length_nil, List.map_cons, List.map_nil, List.replicate_zero, List.replicate_succ, List.cons_append, List.nil_append, List.append_nil, List.set_cons_zero, List.set_cons_succ, if_true, if_false, Bool.false_eq_true, Bool.true_eq_false, Nat.reduceSub, Nat.reduceAdd, Nat.zero_add, Nat.sub_self, cxN_glob, cxN_exc, Option.map_some, Option.bind_some, K.d, Bool.not_true, Bool.not_false, Option.some.injEq, beq_self_eq_true, Nat.reduceEqDiff, eq_self, Nat.reduceBEq, Bool.or_false, Bool.false_or, Bool.or_true, Bool.true_or, Bool.or_self, Bool.and_self, Bool.and_true, Bool.true_and, Bool.and_false, Bool.false_and, callB_len, callB_repr, callB_all, callB_any, callB_int, callB_tuple, callB_list, callB_isi, callB_min2, isi_non, isi_bl, isi_int, isi_str, isi_tup, isi_lst, isi_dct, len_tup, len_lst, seq_tup, seq_lst, lst_lst, tru_bool, newL_fro, liven_false, cmp_eqI, cmp_neI, cmp_eqS, cmp_neS, cmp_lt, cmp_le, cmp_gt, cmp_ge, cmp_in_tup, cmp_in_lst, cmp_nin_tup, cmp_nin_lst, bin_add, bin_sub, bin_mul, bin_mod, bin_div, bin_addS, bin_addT, bin_addL, meth_count, meth_index, meth_append, meth_popAt, sz_of, Nat.reduceLeDiff, Int.reduceEq, Int.reduceBEq, Int.cast_ofNat_Int, Int.reduceAdd, Int.reduceLT, call_def h.draw rfl, e1, sub_lst, ew, hkc, and_self, Int.toNat_natCast]
  have hkn : k.toNat ≤ 6 := by omega
  generalize hF : forL _ _ _ _ = rr
  obtain ⟨ρ', S', e, o3, m4, pl, hρ, hS', hm4, hl, hcs⟩ : ∃ ρ' S', rr = .ok (.nx, ρ') S' ∧ ∃ o3 m4 pl, ρ' = [some (.obj p), some (.int size), some (.obj S.length), o3, none, none, none, none, none] ∧ S' = S.set p m4 ++ [.lst pl] ∧ Pen (b + 1 + 3 * k.toNat) m4 ∧ pl.length = 6 ∧ ∀ c ∈ pl, cellP c := by
    rw [← hF]
    refine forL_inv k.toNat (fun i ρ S' => ∃ o3 m4 pl, ρ = [some (.obj p), some (.int size), some (.obj S.length), o3, none, none, none, none, none] ∧ S' = S.set p m4 ++ [.lst pl] ∧ Pen (b + 1 + 3 * i) m4 ∧ pl.length = 6 ∧ ∀ c ∈ pl, cellP c) (rangeD 0 k.toNat) 0 _ _ (by rw [rangeD_length]; omega) ⟨none, m2, plain, rfl, rfl, hm2.mono (by omega), h6, hcells⟩ ?_
    rintro d - j ρ S1 hj ⟨o3, m3, pl, rfl, rfl, hm3, hl, hcs⟩
    obtain ⟨x, y, m4, e2, hm4, hx, hy⟩ := cell_in (n := n + 1) (B := [.lst pl]) h.toPenT h.cell hp hm3 (by omega)
    obtain ⟨k5, m5, e5, hm5, k50, k51⟩ := draw_in (n := n + 2) (u := 6) (B := [.lst pl]) h.toPenT hp hm4 (by omega) (by decide) (by decide)
    have hq : (S.set p m5 ++ [MO.lst pl])[S.length]? = some (.lst pl) := get_app_self (by simp)
    have es := set_obj (v := pr x y) hq k50 (by rw [hl]; exact k51)
    rw [set_app_self (by simp)] at es
    exact ⟨[some (.obj p), some (.int size), some (.obj S.length), some d, none, none, none, none, none], S.set p m5 ++ [.lst (pl.set k5.toNat (pr x y))], by simp only [bindE, runD, execs, exec, ev, evs, evAnd, evOr, evIfs, evO, evI, testR, R.bind_ok, R.bind_ex, R.ofO_some, R.ofO_none, rget0, rgetS, asgT, asgTs, lenTs, truD_bl, tru_non, tru_tup, tru_lst, backR_rt, backR_nx, backR_ex, List.length_cons, List.length_nil, List.map_cons, List.map_nil, List.replicate_zero, List.replicate_succ, List.cons_append, List.nil_append, List.append_nil, List.set_cons_zero, List.set_cons_succ, if_true, if_false, Bool.false_eq_true, Bool.true_eq_false, Nat.reduceSub, Nat.reduceAdd, Nat.zero_add, Nat.sub_self, cxN_glob, cxN_exc, Option.map_some, Option.bind_some, K.d, Bool.not_true, Bool.not_false, Option.some.injEq, beq_self_eq_true, Nat.reduceEqDiff, eq_self, Nat.reduceBEq, Bool.or_false, Bool.false_or, Bool.or_true, Bool.true_or, Bool.or_self, Bool.and_self, Bool.and_true, Bool.true_and, Bool.and_false, Bool.false_and, callB_len, callB_repr, callB_all, callB_any, callB_int, callB_tuple, callB_list, callB_isi, callB_min2, isi_non, isi_bl, isi_int, isi_str, isi_tup, isi_lst, isi_dct, len_tup, len_lst, seq_tup, seq_lst, lst_lst, tru_bool, newL_fro, liven_false, cmp_eqI, cmp_neI, cmp_eqS, cmp_neS, cmp_lt, cmp_le, cmp_gt, cmp_ge, cmp_in_tup, cmp_in_lst, cmp_nin_tup, cmp_nin_lst, bin_add, bin_sub, bin_mul, bin_mod, bin_div, bin_addS, bin_addT, bin_addL, meth_count, meth_index, meth_append, meth_popAt, sz_of, Nat.reduceLeDiff, Int.reduceEq, Int.reduceBEq, Int.cast_ofNat_Int, Int.reduceAdd, Int.reduceLT, call_def h.cell rfl, e2, call_def h.draw rfl, e5, es], some d, m5, _, rfl, rfl, hm5.mono (by omega), by rw [List.length_set]; exact hl, mem_set hcs ⟨x, y, rfl, hx, hy⟩⟩
  subst e hρ hS'
  simp only [runD, execs, exec, ev, evs, evAnd, evOr, evIfs, evO, evI, testR, R.bind_ok, R.bind_ex, R.ofO_some, R.ofO_none, rget0, rgetS, asgT, asgTs, lenTs, truD_bl, tru_non, tru_tup, tru_lst, backR_rt, backR_nx, backR_ex, List.length_cons, List.length_nil, List.map_cons, List.map_nil, List.replicate_zero, List.replicate_succ, List.cons_append, List.nil_append, List.append_nil, List.set_cons_zero, List.set_cons_succ, if_true, if_false, Bool.false_eq_true, Bool.true_eq_false, Nat.reduceSub, Nat.reduceAdd, Nat.zero_add, Nat.sub_self, cxN_glob, cxN_exc, Option.map_some, Option.bind_some, K.d, Bool.not_true, Bool.not_false, Option.some.injEq, beq_self_eq_true, Nat.reduceEqDiff, eq_self, Nat.reduceBEq, Bool.or_false, Bool.false_or, Bool.or_true, Bool.true_or, Bool.or_self, Bool.and_self, Bool.and_true, Bool.true_and, Bool.and_false, Bool.false_and, callB_len, callB_repr, callB_all, callB_any, callB_int, callB_tuple, callB_list, callB_isi, callB_min2, isi_non, isi_bl, isi_int, isi_str, isi_tup, isi_lst, isi_dct, len_tup, len_lst, seq_tup, seq_lst, lst_lst, tru_bool, newL_fro, liven_false, cmp_eqI, cmp_neI, cmp_eqS, cmp_neS, cmp_lt, cmp_le, cmp_gt, cmp_ge, cmp_in_tup, cmp_in_lst, cmp_nin_tup, cmp_nin_lst, bin_add, bin_sub, bin_mul, bin_mod, bin_div, bin_addS, bin_addT, bin_addL, meth_count, meth_index, meth_append, meth_popAt, sz_of, Nat.reduceLeDiff, Int.reduceEq, Int.reduceBEq, Int.cast_ofNat_Int, Int.reduceAdd, Int.reduceLT]
  obtain ⟨log, ρ', m', e4, hm4, hl4⟩ := log4 (n := n) (o3 := o3) h hp hm4 (by omega) hc hs0 hs hl hcs
  exact ⟨log, ρ', m', pl, e4, hm4.mono (by omega), hl4⟩
theorem closed_fix {S : Store} {m : MO} {b : Nat} (h : Closed S) (hm : Pen b m) : Closed (S.set p m) := h.set (by rw [hm.top]; omega)
mutual
theorem top_wf : ∀ d, wfD d = true → topD d = 0
  | .non, _ => rfl
  | .bl _, _ => rfl
  | .int _, _ => rfl
  | .str _, _ => rfl
  | .tup xs, h => by simp only [wfD] at h; simp only [topD, tops_wf xs h]
  | .lst xs, h => by simp only [wfD] at h; simp only [topD, tops_wf xs h]
  | .dct k, h => by rw [dct_nil h]; rfl
  | .obj _, h => by simp [wfD] at h
  | .ins _ _, h => by simp [wfD] at h
  | .exc _ _, h => by simp [wfD] at h
  | .fn _, h => by simp [wfD] at h
theorem tops_wf : ∀ xs, wfDs xs = true → topDs xs = 0
  | [], _ => rfl
  | x :: xs, h => by
    simp only [wfDs, Bool.and_eq_true] at h
    simp only [topDs, top_wf x h.1, tops_wf xs h.2, Nat.max_self]
end
theorem plain_words {ws : List Str} (h : ws.all plainS = true) {w : Str} (m : w ∈ ws) : plainS w = true := List.all_eq_true.mp h w m
theorem plP : PLACES.all plainS = true := by decide +kernel
theorem plW : WORDS.all plainS = true := by decide +kernel
theorem plL : LEADS.all plainS = true := by decide +kernel
theorem wf_cellP {d : D} (h : cellP d) : wfD d = true := by
  obtain ⟨x, y, rfl, hx, hy⟩ := h
  simp only [pr, wfD, wfDs, plain_words plP hx, plain_words plW hy, Bool.and_self]
theorem LogP.wf {size : Nat} {d : D} (h : LogP size d) : wfD d = true := by
  obtain ⟨w, c0, c1, c2, c3, c4, c5, l0, l1, ends, st, seen, rfl, hw, h0, h1, h2, h3, h4, h5, hl0, hl1, he, _, hs⟩ := h.ex
  have a1 : wfDs ends = true := by
    rw [wfDs_all, List.all_eq_true]
    exact fun x hx => (fit_ends x (he.subset hx)).2
  have a2 : wfDs seen = true := by
    rw [wfDs_all, List.all_eq_true]
    exact fun x hx => (fit_pls x (hs.subset hx)).2
  simp only [logOf, wfD, wfDs, plain_words plW hw, wf_cellP h0, wf_cellP h1, wf_cellP h2, wf_cellP h3, wf_cellP h4, wf_cellP h5, plain_words plL hl0, plain_words plL hl1, a1, a2, Bool.and_self]
theorem LogP.isLog {size : Nat} {d : D} (h : LogP size d) : isLog d = true := by
  obtain ⟨w, c0, c1, c2, c3, c4, c5, l0, l1, ends, st, seen, rfl, hw, h0, h1, h2, h3, h4, h5, hl0, hl1, he, _, hs⟩ := h.ex
  have a1 : areEnds (.tup ends) = true := areEnds_iff.mpr ⟨ends, rfl, he⟩
  have a2 : areSeen (.tup seen) = true := areSeen_iff.mpr ⟨seen, rfl, hs⟩
  have c : ∀ {ws : List Str} {w : Str}, w ∈ ws → oneOf ws (.str w) = true := fun {ws w} h => by
    show ws.contains w = true
    simpa using h
  simp only [FT.isLog, logOf, isTable, pairOf, areCells, cellP_iff.mp h0, cellP_iff.mp h1, cellP_iff.mp h2, cellP_iff.mp h3, cellP_iff.mp h4, cellP_iff.mp h5, c hw, c hl0, c hl1, a1, a2, isBl, Bool.and_self]
def six0 : List D := [pr "going" "", pr "going" "", pr "new" "", pr "kept" "yes", pr "new" "", pr "gone" "no"]
theorem run_log (h : DrawT T) (h2 : T.defs "_law_log" = some d__law_log) {m : MO} {b size : Nat} (hS : S[p]? = some m) (hm : Pen b m) (hb : b < 2 ^ 55) (hc : Closed S) (hs0 : 1 ≤ size) (hs : size ≤ 6) :
    ∃ log m', Run T (n + 7) "_law_log" [.obj p, .int size] S = .ok log (S.set p m') ∧ Pen (b + 60) m' ∧ LogP size log := by
  rw [Run_def h2 rfl]
  have hp := lt_of_get hS
  have e0 : S ++ [MO.lst six0] = S.set p m ++ [.lst six0] := by rw [set_same hS]
  have hsix : ∀ c ∈ six0, cellP c := by
    have : six0.all isCell = true := by decide +kernel
    intro c hc
    exact cellP_iff.mpr (List.all_eq_true.mp this c hc)
  obtain ⟨k1, m1, e1, hm1, k10, k11⟩ := draw_in (n := n + 2) (u := 2) (B := [.lst six0]) h.toPenT hp hm (by omega) (by decide) (by decide)
  have h60 : ([pr "going" "", pr "going" "", pr "new" "", pr "kept" "yes", pr "new" "", pr "gone" "no"] : List D) = six0 := rfl
  have z6 : ([.tup [.str "going", .str ""], .tup [.str "going", .str ""], .tup [.str "new", .str ""], .tup [.str "kept", .str "yes"], .tup [.str "new", .str ""], .tup [.str "gone", .str "no"]] : List D) = six0 := rfl
  have hz6 : six0.length ≤ 1000000 := by decide
  simp only [runD, execs, exec, ev, evs, evAnd, evOr, evIfs, evO, evI, testR, R.bind_ok, R.bind_ex, R.ofO_some, R.ofO_none, rget0, rgetS, asgT, asgTs, lenTs, truD_bl, tru_non, tru_tup, tru_lst, backR_rt, backR_nx, backR_ex, List.length_cons, List.length_nil, List.map_cons, List.map_nil, List.replicate_zero, List.replicate_succ, List.cons_append, List.nil_append, List.append_nil, List.set_cons_zero, List.set_cons_succ, if_true, if_false, Bool.false_eq_true, Bool.true_eq_false, Nat.reduceSub, Nat.reduceAdd, Nat.zero_add, Nat.sub_self, cxN_glob, cxN_exc, Option.map_some, Option.bind_some, K.d, Bool.not_true, Bool.not_false, Option.some.injEq, beq_self_eq_true, Nat.reduceEqDiff, eq_self, Nat.reduceBEq, Bool.or_false, Bool.false_or, Bool.or_true, Bool.true_or, Bool.or_self, Bool.and_self, Bool.and_true, Bool.true_and, Bool.and_false, Bool.false_and, callB_len, callB_repr, callB_all, callB_any, callB_int, callB_tuple, callB_list, callB_isi, callB_min2, isi_non, isi_bl, isi_int, isi_str, isi_tup, isi_lst, isi_dct, len_tup, len_lst, seq_tup, seq_lst, lst_lst, tru_bool, newL_fro, liven_false, cmp_eqI, cmp_neI, cmp_eqS, cmp_neS, cmp_lt, cmp_le, cmp_gt, cmp_ge, cmp_in_tup, cmp_in_lst, cmp_nin_tup, cmp_nin_lst, bin_add, bin_sub, bin_mul, bin_mod, bin_div, bin_addS, bin_addT, bin_addL, meth_count, meth_index, meth_append, meth_popAt, sz_of, Nat.reduceLeDiff, Int.reduceEq, Int.reduceBEq, Int.cast_ofNat_Int, Int.reduceAdd, Int.reduceLT, d__law_log, d__law_log_t0, d__law_log_s0, d__law_log_t1, d__law_log_s1, z6, newL_live, hz6, call_def h.draw rfl, e0, e1]
  have key : ∀ m3 pl, pl.length = 6 → (∀ c ∈ pl, cellP c) → Pen (b + 2) m3 → ∃ log m', backR false S.length (execs (cxN T (n + 4)) d__law_log_t2 [some (.obj p), some (.int size), some (.obj S.length), none, none, none, none, none, none] (S.set p m3 ++ [.lst pl])) = .ok log (S.set p m') ∧ Pen (b + 60) m' ∧ LogP size log := by
    intro m3 pl h6 hcs hm3
    obtain ⟨log, ρ', m', pl', e4, hm4, hl4⟩ := log2 (n := n) h hp hm3 (by omega) hc hs0 hs h6 hcs
    refine ⟨log, m', ?_, hm4.mono (by omega), hl4⟩
    rw [e4]
    have hl2 : S.length = (S.set p m').length := by simp
    rw [hl2]
    exact backR_rt_app (closed_fix hc hm4) (by rw [top_wf _ hl4.wf]; omega)
  cases hk : (k1 == 0) with
  | false =>
    simp only [runD, execs, exec, ev, evs, evAnd, evOr, evIfs, evO, evI, testR, R.bind_ok, R.bind_ex, R.ofO_some, R.ofO_none, rget0, rgetS, asgT, asgTs, lenTs, truD_bl, tru_non, tru_tup, tru_lst, backR_rt, backR_nx, backR_ex, List.length_cons, List.length_nil, List.map_cons, List.map_nil, List.replicate_zero, List.replicate_succ, List.cons_append, List.nil_append, List.append_nil, List.set_cons_zero, List.set_cons_succ, if_true, if_false, Bool.false_eq_true, Bool.true_eq_false, Nat.reduceSub, Nat.reduceAdd, Nat.zero_add, Nat.sub_self, cxN_glob, cxN_exc, Option.map_some, Option.bind_some, K.d, Bool.not_true, Bool.not_false, Option.some.injEq, beq_self_eq_true, Nat.reduceEqDiff, eq_self, Nat.reduceBEq, Bool.or_false, Bool.false_or, Bool.or_true, Bool.true_or, Bool.or_self, Bool.and_self, Bool.and_true, Bool.true_and, Bool.and_false, Bool.false_and, callB_len, callB_repr, callB_all, callB_any, callB_int, callB_tuple, callB_list, callB_isi, callB_min2, isi_non, isi_bl, isi_int, isi_str, isi_tup, isi_lst, isi_dct, len_tup, len_lst, seq_tup, seq_lst, lst_lst, tru_bool, newL_fro, liven_false, cmp_eqI, cmp_neI, cmp_eqS, cmp_neS, cmp_lt, cmp_le, cmp_gt, cmp_ge, cmp_in_tup, cmp_in_lst, cmp_nin_tup, cmp_nin_lst, bin_add, bin_sub, bin_mul, bin_mod, bin_div, bin_addS, bin_addT, bin_addL, meth_count, meth_index, meth_append, meth_popAt, sz_of, Nat.reduceLeDiff, Int.reduceEq, Int.reduceBEq, Int.cast_ofNat_Int, Int.reduceAdd, Int.reduceLT]
    exact key m1 six0 rfl hsix (hm1.mono (by omega))
  | true =>
    obtain ⟨k5, m5, e5, hm5, k50, k51⟩ := draw_in (n := n + 2) (u := 2) (B := [.lst six0]) h.toPenT hp hm1 (by omega) (by decide) (by decide)
    obtain ⟨c, hc5, ec⟩ := atI_lt (xs := ([.tup [.str "new", .str ""], .tup [.str "going", .str ""]] : List D)) k50 k51
    have hcc : cellP c := by
      simp only [List.mem_cons, List.not_mem_nil, or_false] at hc5
      rcases hc5 with rfl | rfl
      · exact ⟨"new", "", rfl, by simp [PLACES], by simp [WORDS]⟩
      · exact ⟨"going", "", rfl, by simp [PLACES], by simp [WORDS]⟩
    have hq : (S.set p m5 ++ [MO.lst six0])[S.length]? = some (.lst six0) := get_app_self (by simp)
    have es := set_obj (v := c) (i := 5) hq (by decide) (by decide)
    rw [set_app_self (by simp)] at es
    simp only [runD, execs, exec, ev, evs, evAnd, evOr, evIfs, evO, evI, testR, R.bind_ok, R.bind_ex, R.ofO_some, R.ofO_none, rget0, rgetS, asgT, asgTs, lenTs, truD_bl, tru_non, tru_tup, tru_lst, backR_rt, backR_nx, backR_ex, List.length_cons, List.length_nil, List.map_cons, List.map_nil, List.replicate_zero, List.replicate_succ, List.cons_append, List.nil_append, List.append_nil, List.set_cons_zero, List.set_cons_succ, if_true, if_false, Bool.false_eq_true, Bool.true_eq_false, Nat.reduceSub, Nat.reduceAdd, Nat.zero_add, Nat.sub_self, cxN_glob, cxN_exc, Option.map_some, Option.bind_some, K.d, Bool.not_true, Bool.not_false, Option.some.injEq, beq_self_eq_true, Nat.reduceEqDiff, eq_self, Nat.reduceBEq, Bool.or_false, Bool.false_or, Bool.or_true, Bool.true_or, Bool.or_self, Bool.and_self, Bool.and_true, Bool.true_and, Bool.and_false, Bool.false_and, callB_len, callB_repr, callB_all, callB_any, callB_int, callB_tuple, callB_list, callB_isi, callB_min2, isi_non, isi_bl, isi_int, isi_str, isi_tup, isi_lst, isi_dct, len_tup, len_lst, seq_tup, seq_lst, lst_lst, tru_bool, newL_fro, liven_false, cmp_eqI, cmp_neI, cmp_eqS, cmp_neS, cmp_lt, cmp_le, cmp_gt, cmp_ge, cmp_in_tup, cmp_in_lst, cmp_nin_tup, cmp_nin_lst, bin_add, bin_sub, bin_mul, bin_mod, bin_div, bin_addS, bin_addT, bin_addL, meth_count, meth_index, meth_append, meth_popAt, sz_of, Nat.reduceLeDiff, Int.reduceEq, Int.reduceBEq, Int.cast_ofNat_Int, Int.reduceAdd, Int.reduceLT, e5, sub_lst, ec, es]
    exact key m5 _ (by rw [List.length_set]; rfl) (mem_set hsix hcc) (hm5.mono (by omega))
end
end FT
end

section
set_option Elab.async false
set_option linter.all false
set_option maxRecDepth 100000
set_option autoImplicit false
/-! FT.K15: the errors. -/
namespace FT
open PySem
def d__law_classes : Def := { ps := 1, n := 2, N := ["caught", "found"], keep := false, lam := false, lm := false, body := (.cons (.asg (.var 1) (.lst false .nil)) (.cons (.asg (.var 1) (.bin false .Add (.var 1) (.lst false (.cons (.isE (.var 0) "CannotBe") (.cons (.isE (.var 0) "DuplicateName") .nil))))) (.cons (.asg (.var 1) (.bin false .Add (.var 1) (.lst false (.cons (.isE (.var 0) "InvalidCell") (.cons (.isE (.var 0) "InvalidEvent") .nil))))) (.cons (.asg (.var 1) (.bin false .Add (.var 1) (.lst false (.cons (.isE (.var 0) "InvalidFault") (.cons (.isE (.var 0) "InvalidIndex") .nil))))) (.cons (.asg (.var 1) (.bin false .Add (.var 1) (.lst false (.cons (.isE (.var 0) "InvalidLine") (.cons (.isE (.var 0) "InvalidLog") .nil))))) (.cons (.asg (.var 1) (.bin false .Add (.var 1) (.lst false (.cons (.isE (.var 0) "InvalidName") (.cons (.isE (.var 0) "InvalidPlace") .nil))))) (.cons (.asg (.var 1) (.bin false .Add (.var 1) (.lst false (.cons (.isE (.var 0) "InvalidRun") (.cons (.isE (.var 0) "InvalidStanding") .nil))))) (.cons (.asg (.var 1) (.bin false .Add (.var 1) (.lst false (.cons (.isE (.var 0) "InvalidStory") (.cons (.isE (.var 0) "InvalidTable") .nil))))) (.cons (.asg (.var 1) (.bin false .Add (.var 1) (.lst false (.cons (.isE (.var 0) "NothingToUndo") (.cons (.isE (.var 0) "ParseError") .nil))))) (.cons (.asg (.var 1) (.bin false .Add (.var 1) (.lst false (.cons (.isE (.var 0) "UnknownLog") .nil)))) (.cons (.ret (.var 1)) .nil))))))))))) }
def d__law_made_errors : Def := { ps := 2, n := 3, N := ["word", "number", "found"], keep := false, lam := false, lm := false, body := (.cons (.asg (.var 2) (.lst false .nil)) (.cons (.asg (.var 2) (.bin false .Add (.var 2) (.lst false (.cons (.new "CannotBe" (.cons (.var 0) .nil)) (.cons (.new "DuplicateName" (.cons (.var 0) .nil)) (.cons (.new "InvalidCell" (.cons (.var 0) .nil)) (.cons (.new "InvalidEvent" (.cons (.var 0) .nil)) .nil))))))) (.cons (.asg (.var 2) (.bin false .Add (.var 2) (.lst false (.cons (.new "InvalidFault" (.cons (.var 0) .nil)) (.cons (.new "InvalidIndex" (.cons (.var 0) .nil)) (.cons (.new "InvalidLine" (.cons (.var 0) .nil)) (.cons (.new "InvalidLog" (.cons (.var 0) .nil)) .nil))))))) (.cons (.asg (.var 2) (.bin false .Add (.var 2) (.lst false (.cons (.new "InvalidName" (.cons (.var 0) .nil)) (.cons (.new "InvalidPlace" (.cons (.var 0) .nil)) (.cons (.new "InvalidRun" (.cons (.var 0) .nil)) (.cons (.new "InvalidStanding" (.cons (.var 0) .nil)) .nil))))))) (.cons (.asg (.var 2) (.bin false .Add (.var 2) (.lst false (.cons (.new "InvalidStory" (.cons (.var 0) .nil)) (.cons (.new "InvalidTable" (.cons (.var 0) .nil)) (.cons (.new "NothingToUndo" (.cons (.var 0) .nil)) (.cons (.new "ParseError" (.cons (.var 1) .nil)) .nil))))))) (.cons (.asg (.var 2) (.bin false .Add (.var 2) (.lst false (.cons (.new "UnknownLog" (.cons (.var 0) .nil)) .nil)))) (.cons (.ret (.var 2)) .nil))))))) }
def d_law_s2 : St := (.ret (.k (.bl true)))
def d_law_t2 : Ss := .cons d_law_s2 .nil
def d_law_s1_s5 : St := (.ife (.or (.cons (.not (.isV (.new "FlushError" (.cons (.var 3) .nil)))) (.cons (.callB .any false (.cons (.call "_law_classes" (.cons (.new "FlushError" (.cons (.var 3) .nil)) .nil)) .nil)) .nil))) (.cons (.ret (.k (.bl false))) .nil) .nil)
def d_law_s1_t5 : Ss := .cons d_law_s1_s5 .nil
def d_law_s1_s4 : St := (.ife (.cmp .NotEq (.callB .repr false (.cons (.lst false (.cons (.fld (.sub (.var 5) (.k (.int 15))) "line") (.cons (.fld (.newK "ParseError" "line" (.var 4)) "line") .nil))) .nil)) (.callB .repr false (.cons (.lst false (.cons (.var 4) (.cons (.var 4) .nil))) .nil))) (.cons (.ret (.k (.bl false))) .nil) .nil)
def d_law_s1_t4 : Ss := .cons d_law_s1_s4 d_law_s1_t5
def d_law_s1_s3_s1 : St := (.ife (.or (.cons (.not (.isE (.sub (.var 5) (.var 6)) "FlushError")) (.cons (.not (.isV (.sub (.var 5) (.var 6)))) .nil))) (.cons (.ret (.k (.bl false))) .nil) .nil)
def d_law_s1_s3_t1 : Ss := .cons d_law_s1_s3_s1 .nil
def d_law_s1_s3_s0 : St := (.ife (.cmp .NotEq (.call "_law_classes" (.cons (.sub (.var 5) (.var 6)) .nil)) (.comp false (.cmp .Eq (.var 7) (.var 6)) [7] true (.range (.callB .len false (.cons (.var 5) .nil))) .nil [7])) (.cons (.ret (.k (.bl false))) .nil) .nil)
def d_law_s1_s3_t0 : Ss := .cons d_law_s1_s3_s0 d_law_s1_s3_t1
def d_law_s1_s3 : St := (.forr [6] true (.range (.callB .len false (.cons (.var 5) .nil))) d_law_s1_s3_t0)
def d_law_s1_t3 : Ss := .cons d_law_s1_s3 d_law_s1_t4
def d_law_s1_s2 : St := (.asg (.var 5) (.call "_law_made_errors" (.cons (.var 3) (.cons (.var 4) .nil))))
def d_law_s1_t2 : Ss := .cons d_law_s1_s2 d_law_s1_t3
def d_law_s1_s1 : St := (.asg (.var 4) (.sub (.lst false (.cons (.k (.int 0)) (.cons (.k (.int 1)) (.cons (.k (.int 7)) (.cons (.bin false .Pow (.k (.int 10)) (.k (.int 39))) .nil))))) (.call "_law_draw" (.cons (.var 1) (.cons (.k (.int 4)) .nil)))))
def d_law_s1_t1 : Ss := .cons d_law_s1_s1 d_law_s1_t2
def d_law_s1_s0 : St := (.asg (.var 3) (.sub (.lst false (.cons (.k (.str "")) (.cons (.k (.str "a")) (.cons (.k (.str "it can not be")) (.cons (.bin false .Mult (.k (.str "x")) (.k (.int 300))) .nil))))) (.call "_law_draw" (.cons (.var 1) (.cons (.k (.int 4)) .nil)))))
def d_law_s1_t0 : Ss := .cons d_law_s1_s0 d_law_s1_t1
def d_law_s1 : St := (.forr [2] true (.range (.k (.int 3))) d_law_s1_t0)
def d_law_t1 : Ss := .cons d_law_s1 d_law_t2
def d_law_s0 : St := (.asg (.var 1) (.call "_law_pen" (.cons (.var 0) .nil)))
def d_law_t0 : Ss := .cons d_law_s0 d_law_t1
def d_law : Def := { ps := 1, n := 8, N := ["script", "pen", "lap", "word", "number", "found", "k", "j"], keep := false, lam := false, lm := false, body := d_law_t0 }
def k15excs : List Str := ["FlushError", "ParseError", "CannotBe", "DuplicateName", "InvalidCell", "InvalidEvent", "InvalidFault", "InvalidIndex", "InvalidLine", "InvalidLog", "InvalidName", "InvalidPlace", "InvalidRun", "InvalidStanding", "InvalidStory", "InvalidTable", "NothingToUndo", "UnknownLog"]
def k15defs : List (Str × Def) := [("_law_pen", d__law_pen), ("_law_next", d__law_next), ("_law_draw", d__law_draw), ("_law_classes", d__law_classes), ("_law_made_errors", d__law_made_errors), ("law", d_law)]
def k15tab : Tab := { glob := fun x => ([] : List (Str × D)).lookup x, exc := fun x => k15excs.contains x, defs := fun x => k15defs.lookup x }
theorem k15pen : PenT k15tab := ⟨by kernel_rfl, by kernel_rfl⟩
def found15 (w : D) (i : Int) : D := .lst ((([ "CannotBe", "DuplicateName", "InvalidCell", "InvalidEvent", "InvalidFault", "InvalidIndex", "InvalidLine", "InvalidLog", "InvalidName", "InvalidPlace", "InvalidRun", "InvalidStanding", "InvalidStory", "InvalidTable", "NothingToUndo"] : List Str).map fun x => D.exc x [w]) ++ [.exc "ParseError" [.int i], .exc "UnknownLog" [w]])
def Lap15 (i : Int) : Prop := ∀ (w x y z : D) (o0 o2 o5 o6 o7 : Option D), execs (cxN k15tab 9) d_law_s1_t2 [o0, some (.obj 0), o2, some w, some (.int i), o5, o6, o7] [.lst [x, y, z]] = .ok (.nx, [o0, some (.obj 0), o2, some w, some (.int i), some (found15 w i), some (.int 16), o7]) [.lst [x, y, z]]
theorem lap0 : Lap15 0 := fun w x y z o0 o2 o5 o6 o7 => by kernel_rfl
theorem lap1 : Lap15 1 := fun w x y z o0 o2 o5 o6 o7 => by kernel_rfl
theorem lap7 : Lap15 7 := fun w x y z o0 o2 o5 o6 o7 => by kernel_rfl
theorem lap39 : Lap15 1000000000000000000000000000000000000000 := fun w x y z o0 o2 o5 o6 o7 => by kernel_rfl
def xs300 : Str := mulS "x" 300
section
variable {T : Tab} {n : Nat} {S : Store} {p : Nat}
theorem run_pen (h : T.defs "_law_pen" = some d__law_pen) {ns : List Int} (hl : ns.length ≤ 100000) : Run T (n + 3) "_law_pen" [.lst (ns.map .int)] [] = .ok (.obj 0) [.lst [.lst ((ns.take 60).map .int), .int 0, .int 0]] := by
  rw [Run_def h rfl]
  have e1 : sliceD [] (.lst (ns.map .int)) none (some 60) = some (.lst ((ns.take 60).map .int)) := by
    rw [slice_lst, show (60 : Int) = ((60 : Nat) : Int) from rfl, cutL_to, List.map_take]
  have e2 : ((ns.take 60).map D.int).length ≤ 1000000 := by
    rw [List.length_map, List.length_take]; omega
  have e3 : newL true [.lst ((ns.take 60).map .int), .int 0, .int 0] [] = .ok (.obj 0) [.lst [.lst ((ns.take 60).map .int), .int 0, .int 0]] := newL_live (by simp)
  simp only [runD, execs, exec, ev, evs, evAnd, evOr, evIfs, evO, evI, testR, R.bind_ok, R.bind_ex, R.ofO_some, R.ofO_none, rget0, rgetS, asgT, asgTs, lenTs, truD_bl, tru_non, tru_tup, tru_lst, backR_rt, backR_nx, backR_ex, List.length_cons, List.length_nil, List.map_cons, List.map_nil, List.replicate_zero, List.replicate_succ, List.cons_append, List.nil_append, List.append_nil, List.set_cons_zero, List.set_cons_succ, if_true, if_false, Bool.false_eq_true, Bool.true_eq_false, Nat.reduceSub, Nat.reduceAdd, Nat.zero_add, Nat.sub_self, cxN_glob, cxN_exc, Option.map_some, Option.bind_some, K.d, Bool.not_true, Bool.not_false, Option.some.injEq, beq_self_eq_true, Nat.reduceEqDiff, eq_self, Nat.reduceBEq, Bool.or_false, Bool.false_or, Bool.or_true, Bool.true_or, Bool.or_self, Bool.and_self, Bool.and_true, Bool.true_and, Bool.and_false, Bool.false_and, callB_len, callB_repr, callB_all, callB_any, callB_int, callB_tuple, callB_list, callB_isi, callB_min2, isi_non, isi_bl, isi_int, isi_str, isi_tup, isi_lst, isi_dct, len_tup, len_lst, seq_tup, seq_lst, lst_lst, tru_bool, newL_fro, liven_false, cmp_eqI, cmp_neI, cmp_eqS, cmp_neS, cmp_lt, cmp_le, cmp_gt, cmp_ge, cmp_in_tup, cmp_in_lst, cmp_nin_tup, cmp_nin_lst, bin_add, bin_sub, bin_mul, bin_mod, bin_div, bin_addS, bin_addT, bin_addL, meth_count, meth_index, meth_append, meth_popAt, sz_of, Nat.reduceLeDiff, Int.reduceEq, Int.reduceBEq, Int.cast_ofNat_Int, Int.reduceAdd, Int.reduceLT, d__law_pen, e1, e2, e3, backR, cutR]
end
theorem get4 {a b c d : D} {k : Int} (h0 : 0 ≤ k) (h1 : k < 4) {S : Store} : ∃ x ∈ [a, b, c, d], subD S (.lst [a, b, c, d]) (.int k) = some x := by
  rw [sub_lst]
  exact atI_lt h0 h1
theorem turn15 {b : Nat} {m : MO} (hm : Pen b m) (hb : b < 2 ^ 50) (o0 o2 o3 o4 o5 o6 o7 : Option D) :
    ∃ t3 t4 t5 t6 m', execs (cxN k15tab 9) d_law_s1_t0 [o0, some (.obj 0), o2, o3, o4, o5, o6, o7] [m] = .ok (.nx, [o0, some (.obj 0), o2, t3, t4, t5, t6, o7]) [m'] ∧ Pen (b + 2) m' := by
  obtain ⟨k1, m1, e1, hm1, a0, a1⟩ := run_draw (n := 7) (S := [m]) (p := 0) (u := 4) k15pen rfl hm (by omega) (by decide) (by decide)
  obtain ⟨k2, m2, e2, hm2, b0, b1⟩ := run_draw (n := 7) (S := [m1]) (p := 0) (u := 4) k15pen rfl hm1 (by omega) (by decide) (by decide)
  have e1' : Run k15tab 11 "_law_draw" [.obj 0, .int 4] [m] = .ok (.int k1) [m1] := e1
  have e2' : Run k15tab 11 "_law_draw" [.obj 0, .int 4] [m1] = .ok (.int k2) [m2] := e2
  obtain ⟨w, _, hw⟩ := get4 (a := .str "") (b := .str "a") (c := .str "it can not be") (d := .str xs300) a0 a1 (S := [m1])
  obtain ⟨x, hx, hi⟩ := get4 (a := .int 0) (b := .int 1) (c := .int 7) (d := .int 1000000000000000000000000000000000000000) b0 b1 (S := [m2])
  have lap : ∃ t5 t6, execs (cxN k15tab 9) d_law_s1_t2 [o0, some (.obj 0), o2, some w, some x, o5, o6, o7] [m2] = .ok (.nx, [o0, some (.obj 0), o2, some w, some x, t5, t6, o7]) [m2] := by
    obtain ⟨ns, ix, dg, rfl, _, _⟩ := hm2
    simp only [List.mem_cons, List.not_mem_nil, or_false] at hx
    rcases hx with rfl | rfl | rfl | rfl
    · exact ⟨_, _, lap0 ..⟩
    · exact ⟨_, _, lap1 ..⟩
    · exact ⟨_, _, lap7 ..⟩
    · exact ⟨_, _, lap39 ..⟩
  obtain ⟨t5, t6, e3⟩ := lap
  refine ⟨some w, some x, t5, t6, m2, ?_, hm2⟩
  have dd : (cxN k15tab 9).call "_law_draw" = some (Run k15tab 11 "_law_draw") := call_def (n := 8) k15pen.draw rfl
  have mx : ∀ S, binD .Mult (.str "x") (.int 300) S = some (.str xs300) := fun _ => by kernel_rfl
  have px : ∀ S, binD .Pow (.int 10) (.int 39) S = some (.int 1000000000000000000000000000000000000000) := fun _ => by kernel_rfl
  simp only [runD, execs, exec, ev, evs, evAnd, evOr, evIfs, evO, evI, testR, R.bind_ok, R.bind_ex, R.ofO_some, R.ofO_none, rget0, rgetS, asgT, asgTs, lenTs, truD_bl, tru_non, tru_tup, tru_lst, backR_rt, backR_nx, backR_ex, List.length_cons, List.length_nil, List.map_cons, List.map_nil, List.replicate_zero, List.replicate_succ, List.cons_append, List.nil_append, List.append_nil, List.set_cons_zero, List.set_cons_succ, if_true, if_false, Bool.false_eq_true, Bool.true_eq_false, Nat.reduceSub, Nat.reduceAdd, Nat.zero_add, Nat.sub_self, cxN_glob, cxN_exc, Option.map_some, Option.bind_some, K.d, Bool.not_true, Bool.not_false, Option.some.injEq, beq_self_eq_true, Nat.reduceEqDiff, eq_self, Nat.reduceBEq, Bool.or_false, Bool.false_or, Bool.or_true, Bool.true_or, Bool.or_self, Bool.and_self, Bool.and_true, Bool.true_and, Bool.and_false, Bool.false_and, callB_len, callB_repr, callB_all, callB_any, callB_int, callB_tuple, callB_list, callB_isi, callB_min2, isi_non, isi_bl, isi_int, isi_str, isi_tup, isi_lst, isi_dct, len_tup, len_lst, seq_tup, seq_lst, lst_lst, tru_bool, newL_fro, liven_false, cmp_eqI, cmp_neI, cmp_eqS, cmp_neS, cmp_lt, cmp_le, cmp_gt, cmp_ge, cmp_in_tup, cmp_in_lst, cmp_nin_tup, cmp_nin_lst, bin_add, bin_sub, bin_mul, bin_mod, bin_div, bin_addS, bin_addT, bin_addL, meth_count, meth_index, meth_append, meth_popAt, sz_of, Nat.reduceLeDiff, Int.reduceEq, Int.reduceBEq, Int.cast_ofNat_Int, Int.reduceAdd, Int.reduceLT, d_law_s1_t0, d_law_s1_s0, mx, dd, e1', hw, d_law_s1_t1, d_law_s1_s1, px, e2', hi, e3]
theorem k15law : k15tab.defs "law" = some d_law := by kernel_rfl
theorem law15_holds {ns : List Int} (hl : ns.length ≤ 63) : ∃ S', Run k15tab 12 "law" [.lst (ns.map .int)] [] = .ok (.bl true) S' := by
  rw [Run_def (n := 9) k15law rfl]
  have e0 := run_pen (n := 8) (T := k15tab) (by kernel_rfl) (ns := ns) (by omega)
  have hm0 : Pen 0 (.lst [.lst ((ns.take 60).map .int), .int 0, .int 0]) := ⟨ns.take 60, 0, 0, rfl, by omega, by omega⟩
  generalize hM : (MO.lst [.lst ((ns.take 60).map .int), .int 0, .int 0]) = m0 at e0 hm0
  have r3 : rangeD 0 (Int.toNat 3) = [.int 0, .int 1, .int 2] := rfl
  have dd : (cxN k15tab 9).call "_law_pen" = some (Run k15tab 11 "_law_pen") := call_def (n := 8) (show k15tab.defs "_law_pen" = some d__law_pen by kernel_rfl) rfl
  simp only [runD, execs, exec, ev, evs, evAnd, evOr, evIfs, evO, evI, testR, R.bind_ok, R.bind_ex, R.ofO_some, R.ofO_none, rget0, rgetS, asgT, asgTs, lenTs, truD_bl, tru_non, tru_tup, tru_lst, backR_rt, backR_nx, backR_ex, List.length_cons, List.length_nil, List.map_cons, List.map_nil, List.replicate_zero, List.replicate_succ, List.cons_append, List.nil_append, List.append_nil, List.set_cons_zero, List.set_cons_succ, if_true, if_false, Bool.false_eq_true, Bool.true_eq_false, Nat.reduceSub, Nat.reduceAdd, Nat.zero_add, Nat.sub_self, cxN_glob, cxN_exc, Option.map_some, Option.bind_some, K.d, Bool.not_true, Bool.not_false, Option.some.injEq, beq_self_eq_true, Nat.reduceEqDiff, eq_self, Nat.reduceBEq, Bool.or_false, Bool.false_or, Bool.or_true, Bool.true_or, Bool.or_self, Bool.and_self, Bool.and_true, Bool.true_and, Bool.and_false, Bool.false_and, callB_len, callB_repr, callB_all, callB_any, callB_int, callB_tuple, callB_list, callB_isi, callB_min2, isi_non, isi_bl, isi_int, isi_str, isi_tup, isi_lst, isi_dct, len_tup, len_lst, seq_tup, seq_lst, lst_lst, tru_bool, newL_fro, liven_false, cmp_eqI, cmp_neI, cmp_eqS, cmp_neS, cmp_lt, cmp_le, cmp_gt, cmp_ge, cmp_in_tup, cmp_in_lst, cmp_nin_tup, cmp_nin_lst, bin_add, bin_sub, bin_mul, bin_mod, bin_div, bin_addS, bin_addT, bin_addL, meth_count, meth_index, meth_append, meth_popAt, sz_of, Nat.reduceLeDiff, Int.reduceEq, Int.reduceBEq, Int.cast_ofNat_Int, Int.reduceAdd, Int.reduceLT, d_law, d_law_t0, d_law_s0, dd, e0, d_law_t1, d_law_s1, Int.reducePow, Int.reduceNeg, Int.reduceLE, and_self, r3, forL, bindE]
  obtain ⟨t3, t4, t5, t6, m1, e1, h1⟩ := turn15 hm0 (by decide) (some (.lst (ns.map .int))) (some (.int 0)) none none none none none
  simp only [e1, runD, execs, exec, ev, evs, evAnd, evOr, evIfs, evO, evI, testR, R.bind_ok, R.bind_ex, R.ofO_some, R.ofO_none, rget0, rgetS, asgT, asgTs, lenTs, truD_bl, tru_non, tru_tup, tru_lst, backR_rt, backR_nx, backR_ex, List.length_cons, List.length_nil, List.map_cons, List.map_nil, List.replicate_zero, List.replicate_succ, List.cons_append, List.nil_append, List.append_nil, List.set_cons_zero, List.set_cons_succ, if_true, if_false, Bool.false_eq_true, Bool.true_eq_false, Nat.reduceSub, Nat.reduceAdd, Nat.zero_add, Nat.sub_self, cxN_glob, cxN_exc, Option.map_some, Option.bind_some, K.d, Bool.not_true, Bool.not_false, Option.some.injEq, beq_self_eq_true, Nat.reduceEqDiff, eq_self, Nat.reduceBEq, Bool.or_false, Bool.false_or, Bool.or_true, Bool.true_or, Bool.or_self, Bool.and_self, Bool.and_true, Bool.true_and, Bool.and_false, Bool.false_and, callB_len, callB_repr, callB_all, callB_any, callB_int, callB_tuple, callB_list, callB_isi, callB_min2, isi_non, isi_bl, isi_int, isi_str, isi_tup, isi_lst, isi_dct, len_tup, len_lst, seq_tup, seq_lst, lst_lst, tru_bool, newL_fro, liven_false, cmp_eqI, cmp_neI, cmp_eqS, cmp_neS, cmp_lt, cmp_le, cmp_gt, cmp_ge, cmp_in_tup, cmp_in_lst, cmp_nin_tup, cmp_nin_lst, bin_add, bin_sub, bin_mul, bin_mod, bin_div, bin_addS, bin_addT, bin_addL, meth_count, meth_index, meth_append, meth_popAt, sz_of, Nat.reduceLeDiff, Int.reduceEq, Int.reduceBEq, Int.cast_ofNat_Int, Int.reduceAdd, Int.reduceLT]
  obtain ⟨u3, u4, u5, u6, m2, e2, h2⟩ := turn15 h1 (by decide) (some (.lst (ns.map .int))) (some (.int 1)) t3 t4 t5 t6 none
  simp only [e2, runD, execs, exec, ev, evs, evAnd, evOr, evIfs, evO, evI, testR, R.bind_ok, R.bind_ex, R.ofO_some, R.ofO_none, rget0, rgetS, asgT, asgTs, lenTs, truD_bl, tru_non, tru_tup, tru_lst, backR_rt, backR_nx, backR_ex, List.length_cons, List.length_nil, List.map_cons, List.map_nil, List.replicate_zero, List.replicate_succ, List.cons_append, List.nil_append, List.append_nil, List.set_cons_zero, List.set_cons_succ, if_true, if_false, Bool.false_eq_true, Bool.true_eq_false, Nat.reduceSub, Nat.reduceAdd, Nat.zero_add, Nat.sub_self, cxN_glob, cxN_exc, Option.map_some, Option.bind_some, K.d, Bool.not_true, Bool.not_false, Option.some.injEq, beq_self_eq_true, Nat.reduceEqDiff, eq_self, Nat.reduceBEq, Bool.or_false, Bool.false_or, Bool.or_true, Bool.true_or, Bool.or_self, Bool.and_self, Bool.and_true, Bool.true_and, Bool.and_false, Bool.false_and, callB_len, callB_repr, callB_all, callB_any, callB_int, callB_tuple, callB_list, callB_isi, callB_min2, isi_non, isi_bl, isi_int, isi_str, isi_tup, isi_lst, isi_dct, len_tup, len_lst, seq_tup, seq_lst, lst_lst, tru_bool, newL_fro, liven_false, cmp_eqI, cmp_neI, cmp_eqS, cmp_neS, cmp_lt, cmp_le, cmp_gt, cmp_ge, cmp_in_tup, cmp_in_lst, cmp_nin_tup, cmp_nin_lst, bin_add, bin_sub, bin_mul, bin_mod, bin_div, bin_addS, bin_addT, bin_addL, meth_count, meth_index, meth_append, meth_popAt, sz_of, Nat.reduceLeDiff, Int.reduceEq, Int.reduceBEq, Int.cast_ofNat_Int, Int.reduceAdd, Int.reduceLT]
  obtain ⟨v3, v4, v5, v6, m3, e3, h3⟩ := turn15 h2 (by decide) (some (.lst (ns.map .int))) (some (.int 2)) u3 u4 u5 u6 none
  simp only [e3, runD, execs, exec, ev, evs, evAnd, evOr, evIfs, evO, evI, testR, R.bind_ok, R.bind_ex, R.ofO_some, R.ofO_none, rget0, rgetS, asgT, asgTs, lenTs, truD_bl, tru_non, tru_tup, tru_lst, backR_rt, backR_nx, backR_ex, List.length_cons, List.length_nil, List.map_cons, List.map_nil, List.replicate_zero, List.replicate_succ, List.cons_append, List.nil_append, List.append_nil, List.set_cons_zero, List.set_cons_succ, if_true, if_false, Bool.false_eq_true, Bool.true_eq_false, Nat.reduceSub, Nat.reduceAdd, Nat.zero_add, Nat.sub_self, cxN_glob, cxN_exc, Option.map_some, Option.bind_some, K.d, Bool.not_true, Bool.not_false, Option.some.injEq, beq_self_eq_true, Nat.reduceEqDiff, eq_self, Nat.reduceBEq, Bool.or_false, Bool.false_or, Bool.or_true, Bool.true_or, Bool.or_self, Bool.and_self, Bool.and_true, Bool.true_and, Bool.and_false, Bool.false_and, callB_len, callB_repr, callB_all, callB_any, callB_int, callB_tuple, callB_list, callB_isi, callB_min2, isi_non, isi_bl, isi_int, isi_str, isi_tup, isi_lst, isi_dct, len_tup, len_lst, seq_tup, seq_lst, lst_lst, tru_bool, newL_fro, liven_false, cmp_eqI, cmp_neI, cmp_eqS, cmp_neS, cmp_lt, cmp_le, cmp_gt, cmp_ge, cmp_in_tup, cmp_in_lst, cmp_nin_tup, cmp_nin_lst, bin_add, bin_sub, bin_mul, bin_mod, bin_div, bin_addS, bin_addT, bin_addL, meth_count, meth_index, meth_append, meth_popAt, sz_of, Nat.reduceLeDiff, Int.reduceEq, Int.reduceBEq, Int.cast_ofNat_Int, Int.reduceAdd, Int.reduceLT, d_law_t2, d_law_s2, backR]
  exact ⟨_, cutR_app (A := []) (B := [m3]) (fun o ho => by cases ho) (Nat.zero_le _)⟩
end FT
end

section
set_option Elab.async false
set_option linter.all false
set_option maxRecDepth 100000
set_option autoImplicit false
set_option maxHeartbeats 0
/-! FT.K15e: the end. -/
namespace FT
open PySem L2 LamX PySem.Spec PyProof.Rows
def c_L : LawD := { prog := PySem.Challenge.pw_flushtold_k15_errors, consts := [], excs := k15excs, defs := k15defs }
theorem forall_cons {α : Type} {P : α → Prop} {a : α} {l : List α} (h : P a) (t : ∀ x ∈ l, P x) : ∀ x ∈ a :: l, P x := fun x hx => by
  rcases List.mem_cons.mp hx with e | e
  · rw [e]; exact h
  · exact t x e
theorem c_d__law_pen : BindOk c_L "_law_pen" d__law_pen ∧ (if d__law_pen.lam then lamB d__law_pen (c_L.st "_law_pen") else defB d__law_pen (c_L.st "_law_pen")) = true := ⟨fun _ _ _ _ _ _ us hl => match us, hl with | [_], _ => by kernel_rfl, by kernel_rfl⟩
theorem c_d__law_next : BindOk c_L "_law_next" d__law_next ∧ (if d__law_next.lam then lamB d__law_next (c_L.st "_law_next") else defB d__law_next (c_L.st "_law_next")) = true := ⟨fun _ _ _ _ _ _ us hl => match us, hl with | [_], _ => by kernel_rfl, by kernel_rfl⟩
theorem c_d__law_draw : BindOk c_L "_law_draw" d__law_draw ∧ (if d__law_draw.lam then lamB d__law_draw (c_L.st "_law_draw") else defB d__law_draw (c_L.st "_law_draw")) = true := ⟨fun _ _ _ _ _ _ us hl => match us, hl with | [_, _], _ => by kernel_rfl, by kernel_rfl⟩
theorem c_d__law_classes : BindOk c_L "_law_classes" d__law_classes ∧ (if d__law_classes.lam then lamB d__law_classes (c_L.st "_law_classes") else defB d__law_classes (c_L.st "_law_classes")) = true := ⟨fun _ _ _ _ _ _ us hl => match us, hl with | [_], _ => by kernel_rfl, by kernel_rfl⟩
theorem c_d__law_made_errors : BindOk c_L "_law_made_errors" d__law_made_errors ∧ (if d__law_made_errors.lam then lamB d__law_made_errors (c_L.st "_law_made_errors") else defB d__law_made_errors (c_L.st "_law_made_errors")) = true := ⟨fun _ _ _ _ _ _ us hl => match us, hl with | [_, _], _ => by kernel_rfl, by kernel_rfl⟩
theorem c_d_law : BindOk c_L "law" d_law ∧ (if d_law.lam then lamB d_law (c_L.st "law") else defB d_law (c_L.st "law")) = true := ⟨fun _ _ _ _ _ _ us hl => match us, hl with | [_], _ => by kernel_rfl, by kernel_rfl⟩
theorem c_defs : DefsOk c_L := (forall_cons c_d__law_pen (forall_cons c_d__law_next (forall_cons c_d__law_draw (forall_cons c_d__law_classes (forall_cons c_d__law_made_errors (forall_cons c_d_law (fun x hx => by cases hx)))))))
abbrev c_R : PySem.W.OpenRow := PySem.W.OpenLaw.row PySem.Challenge.rw_flushtold_k15_errors
abbrev c_hk : PySem.W.Hook := c_L.hook 4
def c_ob (s : PySem.W.SharedT) : HdA := c_L.obsG 4 (HandSHeadRun.getT s)
theorem c_ob_eq (s : PySem.W.SharedT) : c_ob s = c_hk.obs s.abs := LawD.obs_eq (HandSHeadRun.getT_eq s)
def c_loose : List Str := (["__name__", "FlushError", "ParseError", "CannotBe", "DuplicateName", "InvalidCell", "InvalidEvent", "InvalidFault", "InvalidIndex", "InvalidLine", "InvalidLog", "InvalidName", "InvalidPlace", "InvalidRun", "InvalidStanding", "InvalidStory", "InvalidTable", "NothingToUndo", "UnknownLog", "_law_pen", "_law_next", "_law_draw", "_law_classes", "_law_made_errors"] : List Str)
theorem c_run (w : World) : HandSHeadRun.RunEq c_R (PySem.W.view c_R.prog [25]) c_hk c_ob 12000 c_loose w := by
  intro os
  kernel_rfl
def c_lawi : Nat := 25

theorem headOk {l : List Arg} (h : (l.head?.map fun a => decide (a.arg = ("self" : Str))) = some true) : ∃ ar, l.head? = some ar ∧ ar.arg = ("self" : Str) := by
  cases e : l.head? with
  | none => rw [e] at h; cases h
  | some ar => rw [e] at h; exact ⟨ar, rfl, of_decide_eq_true (Option.some.inj h)⟩
theorem c_psy : ParSyn PySem.Challenge.pw_flushtold_k15_errors where
  body := by kernel_rfl
  head := headOk (by kernel_rfl)
  names := by kernel_rfl
  kind := by kernel_rfl
  co := by kernel_rfl
  gen := by kernel_rfl
  sup := by kernel_rfl
  pos := fun _ _ _ _ _ _ _ _ _ _ => by kernel_rfl
  kw := fun _ _ _ _ _ _ _ _ _ _ => by kernel_rfl
theorem c_sem : ∃ sem, callN c_L.tab 12 "law" = some sem ∧ ∀ ns : List Int, ns.length ≤ 63 → (∀ z ∈ ns, Builtin.Int.intBits z ≤ 1048576) → ∃ S', sem [.lst (ns.map .int)] [] = .ok (.bl true) S' := by
  show ∃ sem, callN k15tab 12 "law" = some sem ∧ _
  refine ⟨_, callN_def (n := 9) k15law rfl, fun ns hl _ => ?_⟩
  obtain ⟨S', e⟩ := law15_holds hl
  rw [Run_def (n := 9) k15law rfl] at e
  exact ⟨S', e⟩
end FT
open PySem PySem.W PySem.Calls PyProof.Rows
set_option maxRecDepth 100000 in
set_option maxHeartbeats 0 in
theorem PySem.Challenge.cw_flushtold_k15_errors_holds : PySem.Challenge.rw_flushtold_k15_errors.Holds := by
  w_on; o_law
  refine HandSHeadRun.head_any (r := OpenLaw.row PySem.Challenge.rw_flushtold_k15_errors) (q := view (OpenLaw.row PySem.Challenge.rw_flushtold_k15_errors).prog [25]) (H := FT.c_hk) (ob := FT.c_ob) (M := 12000) (loose := FT.c_loose) (d := HandSHeadRun.topDef (OpenLaw.row PySem.Challenge.rw_flushtold_k15_errors).prog 25) (kwd := []) FT.c_ob_eq
    (by kernel_rfl) (fun s => by kernel_rfl) FT.c_run (by kernel_rfl) (by kernel_rfl) (by kernel_rfl) (by rfl) (by first | assumption | decide +kernel) (by decide +kernel) ⟨rfl, rfl, rfl, rfl, rfl, by decide +kernel⟩ ?hw ?hc
  case hw => w_witness2
  case hc =>
    obtain ⟨sem, hs, holds⟩ := FT.c_sem
    exact FT.law_end (L := FT.c_L) (k := 12) (n := 63) (sem := sem) rfl rfl (by decide) (by kernel_rfl) (by kernel_rfl) ⟨rfl, by decide, by decide⟩ FT.c_defs (fun _ => FT.c_psy) hs holds
end
