import PyProof.Rows.All
import Wide.All
import OpenK.AllK
import Wide.FinOn
import HandS.ForMost
import HandS.Exc
import HandS.ExcOwn
import HandS.TryOnly
import HandS.Defaults
import HandS.Zip
import HandS.Walk
import HandS.DictComp
import HandS.TupAny
import HandS.TupLe
import HandS.TupLen
import HandS.TupMul
import HandS.SetKeys
import HandS.Conv
import HandS.Style
import KE.DataEq
import KE.DataMinMax
import KE.DataFind
import KE.SortData
import KE.DatumIndex
import HandS.IsInst
import HandS.Text
import HandS.RaiseMore
import HandS.More
import HandS.Strs
import HandS.StrSplit
import HandS.StrMore
import HandS.Lambda
import HandS.SetBool
import HandS.HotCalls
import KE.IntTextLaws
import KE.GoesEnum
import KE.GoesSet
import HandS.TupSets
import HandS.ExcIs
import HandS.Ends
import HandS.EndBits
import HandS.Codes
import HandS.Head0
import HandS.Head1
import HandS.Head2
import HandS.HeadEnd
import HandS.HeadHook1
import HandS.HeadHook2
import Open.Row
import PyProof.TableCode
import PySem.Challenge.RW_siteworks_k19_logs_refused
set_option linter.all false
set_option Elab.async false
section
/-! A small Python over values: the text (IR) and a total evaluator. No library in sight. -/
namespace SW

inductive PV where
  | non | bl (b : Bool) | int (i : Int) | str (s : List Nat) | tup (xs : List PV) | lst (xs : List PV)

instance : Inhabited PV := ⟨.non⟩

mutual
/-- == -/
def eqv : PV → PV → Bool
  | .non, y => match y with | .non => true | _ => false
  | .bl a, y => match y with | .bl b => a == b | .int j => decide ((if a then 1 else 0) = j) | _ => false
  | .int i, y => match y with | .int j => decide (i = j) | .bl b => decide (i = (if b then 1 else 0)) | _ => false
  | .str s, y => match y with | .str t => decide (s = t) | _ => false
  | .tup xs, y => match y with | .tup ys => eqvs xs ys | _ => false
  | .lst xs, y => match y with | .lst ys => eqvs xs ys | _ => false
def eqvs : List PV → List PV → Bool
  | [], ys => match ys with | [] => true | _ => false
  | x :: xs, ys => match ys with | [] => false | y :: ys => eqv x y && eqvs xs ys
end

mutual
/-- of one kind, to a depth, so that they have an order -/
def alk : Nat → PV → PV → Bool
  | _, .int _, y => match y with | .int _ => true | _ => false
  | _, .str _, y => match y with | .str _ => true | _ => false
  | n, .tup xs, y => match n, y with | n + 1, .tup ys => alks n xs ys | _, _ => false
  | n, .lst xs, y => match n, y with | n + 1, .lst ys => alks n xs ys | _, _ => false
  | _, .bl _, _ => false
  | _, .non, _ => false
def alks : Nat → List PV → List PV → Bool
  | _, [], _ => true
  | n, x :: xs, ys => match ys with | [] => true | y :: ys => alk n x y && alks n xs ys
end
mutual
/-- its depth is at most so much -/
def dle : Nat → PV → Bool
  | _, .non => true
  | _, .bl _ => true
  | _, .int _ => true
  | _, .str _ => true
  | n, .tup xs => match n with | n + 1 => dles n xs | 0 => false
  | n, .lst xs => match n with | n + 1 => dles n xs | 0 => false
def dles : Nat → List PV → Bool
  | _, [] => true
  | n, x :: xs => dle n x && dles n xs
end

/-- < of texts -/
def ltS : List Nat → List Nat → Bool
  | [], ys => match ys with | [] => false | _ => true
  | x :: xs, ys => match ys with | [] => false | y :: ys => if x = y then ltS xs ys else decide (x < y)

mutual
/-- < of alike things -/
def ltv : PV → PV → Bool
  | .int i, y => match y with | .int j => decide (i < j) | _ => false
  | .str s, y => match y with | .str t => ltS s t | _ => false
  | .tup xs, y => match y with | .tup ys => ltvs xs ys | _ => false
  | .lst xs, y => match y with | .lst ys => ltvs xs ys | _ => false
  | .bl _, _ => false
  | .non, _ => false
def ltvs : List PV → List PV → Bool
  | [], ys => match ys with | [] => false | _ => true
  | x :: xs, ys => match ys with | [] => false | y :: ys => if eqv x y then ltvs xs ys else ltv x y
end

inductive Val where
  | v (p : PV) | o (n : Nat)
instance : Inhabited Val := ⟨.v .non⟩

/-- a dict's key -/
abbrev Ky := Int ⊕ List Nat

/-- a thing that may change -/
inductive MO where
  | lst (xs : List PV)
  | dk (kvs : List (Ky × PV))
  | dt (kvs : List (List Ky × PV))
  | lk (o : MO)
  | ins (c : Nat) (fs : List (Nat × Val))
instance : Inhabited MO := ⟨.lst []⟩

abbrev Mem := List MO
inductive Res (α : Type) where
  | ok (a : α) (μ : Mem) | exn (c : Nat) (μ : Mem) | no

def Res.bind {α β : Type} : Res α → (α → Mem → Res β) → Res β
  | .ok a μ, f => f a μ
  | .exn c μ, _ => .exn c μ
  | .no, _ => .no
def M (α : Type) := Mem → Res α
def M.pure {α : Type} (a : α) : M α := fun μ => .ok a μ
def M.bind {α β : Type} (x : M α) (f : α → M β) : M β := fun μ => (x μ).bind fun a μ' => f a μ'
instance : Monad M where
  pure := M.pure
  bind := M.bind
def no {α : Type} : M α := fun _ => .no
/-- a pure value, if there is one -/
def ofO {α : Type} : Option α → M α
  | some a => pure a
  | none => no
@[simp] theorem bind_ap {α β : Type} (x : M α) (f : α → M β) (μ : Mem) : (x >>= f) μ = (x μ).bind fun a μ' => f a μ' := rfl
@[simp] theorem pure_ap {α : Type} (a : α) (μ : Mem) : (pure a : M α) μ = .ok a μ := rfl
@[simp] theorem no_ap {α : Type} (μ : Mem) : (no : M α) μ = .no := rfl
@[simp] theorem rbind_ok {α β : Type} (a : α) (μ : Mem) (f : α → Mem → Res β) : (Res.ok a μ).bind f = f a μ := rfl
@[simp] theorem rbind_exn {α β : Type} (c : Nat) (μ : Mem) (f : α → Mem → Res β) : (Res.exn c μ : Res α).bind f = .exn c μ := rfl
@[simp] theorem rbind_no {α β : Type} (f : α → Mem → Res β) : (Res.no : Res α).bind f = .no := rfl
@[simp] theorem ofO_some {α : Type} (a : α) : ofO (some a) = pure a := rfl
@[simp] theorem ofO_none {α : Type} : (ofO (none : Option α)) = no := rfl

def getM : M Mem := fun μ => .ok μ μ
def putM (μ : Mem) : M Unit := fun _ => .ok () μ
@[simp] theorem getM_ap (μ : Mem) : getM μ = .ok μ μ := rfl
@[simp] theorem putM_ap (μ ν : Mem) : putM ν μ = .ok () ν := rfl

inductive Op2 where | add | sub | mul | fdiv | mod | pow
  deriving DecidableEq
inductive CmpO where | eq | ne | lt | le | gt | ge | isin | notin | is | isnot
  deriving DecidableEq
inductive Ty where | int | bool | str | tuple | list
  deriving DecidableEq
inductive Bi where | len | max2 | min2 | max1 | min1 | sum | all | any | tuple | int | str | sorted | sortedSet | isI (t : Ty) | listRange | listOf | dictCopy
inductive Me where | append | extend | index | indexT | count | pop | popAt | remove | reverse | get1 | get2 | join | split
  deriving DecidableEq
inductive Mode where | val | own | raw

inductive Pat where
  | v (i : Nat) | t (ps : List Pat)

variable (F : Type)
mutual
inductive E where
  | var (i : Nat)
  | int (i : Int) | str (s : List Nat) | bl (b : Bool) | non
  | cst (p : PV)
  | bin (o : Op2) (a b : E)
  | neg (a : E)
  /-- a dict is empty -/
  | emp (a : E)
  | cmp (o : CmpO) (a b : E)
  | cmp2 (o p : CmpO) (a b c : E)
  | and (a b : E) | or (a b : E) | not (a : E)
  | ite (c : Cn) (a b : E)
  | tup (es : List E) | lst (es : List E)
  | idx (a i : E) | slc (a : E) (lo hi : Option E)
  | call (m : Mode) (f : F) (es : List E)
  /-- [f, ..][i](..) -/
  | callL (m : Mode) (fs : List F) (i : E) (es : List E)
  /-- never come to -/
  | bad
  | bi (b : Bi) (es : List E)
  | me (m : Me) (o : E) (es : List E)
  | comp (elt : E) (p : Pat) (it : It) (cs : List Cn) (own : List Nat)
  | lenSet (elt : E) (p : Pat) (it : It) (cs : List Cn) (own : List Nat)
  /-- a new list or dict that may change -/
  | own (f : OF)
  /-- a comprehension along a dict's keys -/
  | compK (elt : E) (p : Pat) (i : Nat) (cs : List Cn) (own : List Nat)
/-- a test -/
inductive Cn where
  | and (a b : Cn) | or (a b : Cn) | not (a : Cn) | e (e : E)
/-- what makes a new list or dict -/
inductive OF where
  | lst (es : List E) | dk | dt
  | rep (a b : E)
  | comp (elt : E) (p : Pat) (it : It) (cs : List Cn) (own : List Nat)
  | dcomp (k e : E) (p : Pat) (it : It) (cs : List Cn) (own : List Nat)
  | listOf (e : E) | dictOf (e : E)
  | dcompK (k e : E) (p : Pat) (i : Nat) (cs : List Cn) (own : List Nat)
/-- what a loop goes along -/
inductive It where
  | seq (e : E) | range1 (e : E) | range2 (a b : E) | enum (e : E) | zip (a b : E)
end

inductive S where
  | asg (p : Pat) (e : E F)
  | par (ps : List Nat) (es : List (E F))
  | aug (i : Nat) (o : Op2) (e : E F)
  | setItem (o i e : E F)
  | setTup (o : E F) (is : List (E F)) (e : E F)
  | expr (e : E F)
  | ret (e : E F)
  | ite (c : Cn F) (a b : List S)
  | for (p : Pat) (it : It F) (body : List S)
  /-- along a dict's keys -/
  | forK (p : Pat) (i : Nat) (body : List S)
  | whl (c : Cn F) (body : List S)
  | raise (c : Nat)
  /-- never come to -/
  | bad
  /-- try, with an except clause for all (k none) or one of n exceptions; what is handed back then: r, or which it was -/
  | tryX (n : Nat) (k : Option Nat) (r : Option PV) (body : List S)

/-! ### values -/
/-- lengths that are let by -/
def LIM : Nat := 16777216
def okN (n : Nat) : Bool := Nat.ble n 16777216

def reps {α : Type} (xs : List α) : Nat → List α
  | 0 => []
  | n + 1 => xs ++ reps xs n

def small64 (i : Int) : Bool := decide (-18446744073709551616 < i) && decide (i < 18446744073709551616)
def bin2 : Op2 → PV → PV → Option PV
  | .add, x, y => match x, y with
    | .int i, .int j => some (.int (i + j))
    | .str s, .str t => if okN (s.length + t.length) then some (.str (s ++ t)) else none
    | .tup xs, .tup ys => if okN (xs.length + ys.length) then some (.tup (xs ++ ys)) else none
    | .lst xs, .lst ys => if okN (xs.length + ys.length) then some (.lst (xs ++ ys)) else none
    | _, _ => none
  | .sub, x, y => match x, y with
    | .int i, .int j => some (.int (i - j))
    | _, _ => none
  | .mul, x, y => match x, y with
    | .int i, .int j => if small64 i || small64 j then some (.int (i * j)) else none
    | .str s, .int j => if decide (1 ≤ j) && decide (j < 10000) && okN (s.length * j.toNat) then some (.str (reps s j.toNat)) else none
    | .tup xs, .int j => if decide (1 ≤ j) && decide (j ≤ 1000) && (!xs.isEmpty && Nat.ble xs.length 1000) then some (.tup (reps xs j.toNat)) else none
    | .lst xs, .int j => if decide (0 ≤ j) && decide (j < 10000) && okN (xs.length * j.toNat) then some (.lst (reps xs j.toNat)) else none
    | _, _ => none
  | .fdiv, x, y => match x, y with
    | .int i, .int j => if decide (0 < j) && decide (j < 1073741824) then some (.int (i / j)) else none
    | _, _ => none
  | .mod, x, y => match x, y with
    | .int i, .int j => if decide (0 < j) then some (.int (i % j)) else none
    | _, _ => none
  | .pow, x, y => match x, y with
    | .int i, .int j => if decide (0 ≤ j) && decide (j ≤ 1000) && small64 i then some (.int (i ^ j.toNat)) else none
    | _, _ => none

def keyOf : PV → Option Ky
  | .int i => some (.inl i)
  | .str s => some (.inr s)
  | _ => none
def keysOf : List PV → Option (List Ky)
  | [] => some []
  | x :: xs => match keyOf x, keysOf xs with
    | some k, some ks => some (k :: ks)
    | _, _ => none
/-- the keys, once each -/
def hasK (k : Ky) (r : List Ky) : Bool := r.any fun j => decide (k = j)
def onceK : List Ky → List Ky
  | [] => []
  | k :: r => if hasK k r = true then onceK r else k :: onceK r
def ofKey : Ky → PV
  | .inl i => .int i
  | .inr s => .str s

section
variable {κ : Type} [DecidableEq κ]
def dget (kvs : List (κ × PV)) (k : κ) : Option PV := match kvs with
  | [] => none
  | (j, v) :: r => if j = k then some v else dget r k
def dput (kvs : List (κ × PV)) (k : κ) (v : PV) : List (κ × PV) :=
  if (kvs.any fun kv => decide (kv.1 = k)) = true then kvs.map fun kv => if kv.1 = k then (kv.1, v) else kv else kvs ++ [(k, v)]
def ddel (kvs : List (κ × PV)) (k : κ) : List (κ × PV) := kvs.filter fun p => decide (p.1 ≠ k)
end

def MO.bare : MO → MO
  | .lk o => o
  | o => o
/-- what stands there, as a value -/
def seqOf : MO → Option (List PV)
  | .lst xs => some xs
  | .lk (.lst xs) => some xs
  | _ => none
def dicOf : MO → Option (List (Ky × PV))
  | .dk kvs => some kvs
  | .lk (.dk kvs) => some kvs
  | _ => none
/-- how many entries -/
def dlen : MO → Option Nat
  | .dk kvs => some kvs.length
  | .dt kvs => some kvs.length
  | .lk (.dk kvs) => some kvs.length
  | .lk (.dt kvs) => some kvs.length
  | _ => none
def view : Val → M PV
  | .v p => pure p
  | .o n => fun μ => match μ[n]? with
    | some o => match seqOf o with | some xs => .ok (.lst xs) μ | none => .no
    | none => .no
/-- a thing that is no object -/
def flat : Val → M PV
  | .v p => pure p
  | .o _ => no
def flats : List Val → M (List PV)
  | [] => pure []
  | v :: vs => do
    let p ← flat v
    let ps ← flats vs
    pure (p :: ps)
def atN {α : Type} (xs : List α) (i : Int) : Option α :=
  if 0 ≤ i then xs[i.toNat]? else if 0 ≤ i + xs.length then xs[(i + xs.length).toNat]? else none
def atS (xs : List Nat) (i : Int) : Option PV := if okN xs.length then (atN xs i).map fun c => .str [c] else none
def sIx (n d : Nat) : Option Int → Nat
  | none => d
  | some v => if v < 0 then (v + n).toNat else min v.toNat n
def cut {α : Type} (xs : List α) (lo hi : Option Int) : List α := (xs.drop (sIx xs.length 0 lo)).take (sIx xs.length xs.length hi - sIx xs.length 0 lo)

def anyEq (x : PV) : List PV → Bool
  | [] => false
  | y :: ys => eqv y x || anyEq x ys
def cmpI (o : CmpO) (i j : Int) : Option Bool := match o with
  | .lt => some (decide (i < j)) | .le => some (decide (i ≤ j)) | .gt => some (decide (j < i)) | .ge => some (decide (j ≤ i))
  | _ => none
def isNon : PV → Bool
  | .non => true
  | _ => false
def isOne : PV → PV → Option Bool
  | x, .non => some (isNon x)
  | .bl c, .bl b => some (decide (c = b))
  | _, _ => none
def cmp2v : CmpO → PV → PV → Option Bool
  | .eq, x, y => if dle 40 x || dle 40 y then some (eqv x y) else none
  | .ne, x, y => if dle 40 x || dle 40 y then some (!eqv x y) else none
  | .isin, x, y => match y with
    | .lst ys => if dle 40 x then some (anyEq x ys) else none
    | .tup ys => if dle 40 x then some (anyEq x ys) else none
    | .str t => match x with | .str [c] => some (t.contains c) | _ => none
    | _ => none
  | .notin, x, y => match y with
    | .lst ys => if dle 40 x then some (!anyEq x ys) else none
    | .tup ys => if dle 40 x then some (!anyEq x ys) else none
    | .str t => match x with | .str [c] => some (!t.contains c) | _ => none
    | _ => none
  | .is, x, y => isOne x y
  | .isnot, x, y => (isOne x y).map not
  | o, x, y => match x, y with | .int i, .int j => cmpI o i j | _, _ => none
def dicAt (v : Val) (μ : Mem) : Option (List (Ky × PV)) := match v with
  | .o n => match μ[n]? with | some o => dicOf o | none => none
  | _ => none
def lenAt (v : Val) (μ : Mem) : Option Nat := match v with
  | .o n => match μ[n]? with | some o => dlen o | none => none
  | _ => none
/-- a comparison -/
def cmpV (o : CmpO) (x y : Val) : M Val := fun μ => match dicAt y μ, o with
  | some kvs, .isin => match x with
    | .v p => match keyOf p with | some k => .ok (Val.v (.bl (dget kvs k).isSome)) μ | none => .no
    | _ => .no
  | some kvs, .notin => match x with
    | .v p => match keyOf p with | some k => .ok (Val.v (.bl (!(dget kvs k).isSome))) μ | none => .no
    | _ => .no
  | some _, _ => .no
  | none, _ => (do
    let p ← view x
    let q ← view y
    let b ← ofO (cmp2v o p q)
    pure (Val.v (.bl b))) μ
/-- truth -/
def truth : Val → M Bool
  | .v .non => pure false
  | .v (.bl b) => pure b
  | .v (.int i) => pure (decide (i ≠ 0))
  | .v (.str _) => no
  | .v (.tup xs) => pure (!xs.isEmpty)
  | .v (.lst xs) => pure (!xs.isEmpty)
  | .o n => fun μ => match μ[n]? with
    | some o => match seqOf o with | some xs => .ok (!xs.isEmpty) μ | none => .no
    | none => .no

/-! ### built-ins -/
def allInt : List PV → Option (List Int)
  | [] => some []
  | .int i :: r => (allInt r).map (i :: ·)
  | _ => none
def allBl : List PV → Option (List Bool)
  | [] => some []
  | .bl i :: r => (allBl r).map (i :: ·)
  | _ => none
def ins (x : PV) : List PV → List PV
  | [] => [x]
  | y :: ys => if ltv y x then y :: ins x ys else x :: y :: ys
def isort : List PV → List PV
  | [] => []
  | x :: xs => ins x (isort xs)
def neT : PV → Bool
  | .tup [] => false
  | _ => true
def allAlk (xs : List PV) : Bool := xs.all fun x => neT x && dle 8 x && xs.all fun y => alk 8 x y
/-- the same, once each -/
def once : List PV → List PV
  | [] => []
  | x :: xs => if anyEq x xs then once xs else x :: once xs
def allStr : List PV → Bool
  | [] => true
  | .str _ :: r => allStr r
  | _ => false
def best (lt : PV → PV → Bool) : PV → List PV → PV
  | b, [] => b
  | b, y :: ys => if lt y b then best lt y ys else best lt b ys
def isTy : Ty → PV → Bool
  | .int, p => match p with | .int _ => true | .bl _ => true | _ => false
  | .bool, p => match p with | .bl _ => true | _ => false
  | .str, p => match p with | .str _ => true | _ => false
  | .tuple, p => match p with | .tup _ => true | _ => false
  | .list, p => match p with | .lst _ => true | _ => false
def digit (n : Nat) : Nat := 48 + n
def natS (fuel n : Nat) (acc : List Nat) : List Nat := match fuel with
  | 0 => acc
  | f + 1 => if n < 10 then digit n :: acc else natS f (n / 10) (digit (n % 10) :: acc)
def rangeL (lo : Int) : Nat → List PV
  | 0 => []
  | n + 1 => .int lo :: rangeL (lo + 1) n
def numOf (s : List Nat) (acc : Nat) : Option Nat := match s with
  | [] => some acc
  | c :: r => if Nat.ble 48 c && Nat.ble c 57 then numOf r (acc * 10 + (c - 48)) else none

def sumI : List Int → Int
  | [] => 0
  | i :: r => i + sumI r
def bi1 (b : Bi) (p : PV) : Option PV := match b, p with
  | .len, .lst xs => some (.int xs.length)
  | .len, .tup xs => some (.int xs.length)
  | .len, .str xs => if okN xs.length then some (.int xs.length) else none
  | .max1, .lst (x :: xs) => if allAlk (x :: xs) then some (best (fun a b => ltv b a) x xs) else none
  | .min1, .lst (x :: xs) => if allAlk (x :: xs) then some (best ltv x xs) else none
  | .max1, .tup (x :: xs) => if allAlk (x :: xs) then some (best (fun a b => ltv b a) x xs) else none
  | .min1, .tup (x :: xs) => if allAlk (x :: xs) then some (best ltv x xs) else none
  | .sum, .lst xs => (allInt xs).map fun is => .int (sumI is)
  | .all, .lst xs => (allBl xs).map fun bs => .bl (bs.all id)
  | .any, .lst xs => (allBl xs).map fun bs => .bl (bs.any id)
  | .tuple, .lst xs => some (.tup xs)
  | .tuple, .tup xs => some (.tup xs)
  | .listOf, .lst xs => some (.lst xs)
  | .listOf, .tup xs => some (.lst xs)
  | .int, .bl b => some (.int (if b then 1 else 0))
  | .int, .int i => some (.int i)
  | .int, .str s => if s.isEmpty || !(Nat.ble s.length 600) then none else (numOf s 0).map fun n => .int n
  | .str, .int i => if decide (0 ≤ i) && small64 i then some (.str (natS 30 i.toNat [])) else none
  | .str, .str s => some (.str s)
  | .sorted, .lst xs => if allAlk xs then some (.lst (isort xs)) else none
  | .sorted, .tup xs => if (allInt xs).isSome then some (.lst (isort xs)) else none
  | .sortedSet, .lst xs => if allStr xs && Nat.ble xs.length 3000 then some (.lst (isort (once xs))) else none
  | .isI t, p => some (.bl (isTy t p))
  | .listRange, .int n => if decide (n ≤ 16777216) && decide (-16777216 ≤ n) then some (.lst (rangeL 0 n.toNat)) else none
  | _, _ => none
def bi2 (b : Bi) (p q : PV) : Option PV := match b, p, q with
  | .max2, .int i, .int j => some (.int (if j > i then j else i))
  | .min2, .int i, .int j => some (.int (if j < i then j else i))
  | .max2, .str s, .str t => some (.str (if ltS s t = true then t else s))
  | .min2, .str s, .str t => some (.str (if ltS t s = true then t else s))
  | _, _, _ => none
def biV (b : Bi) (vs : List Val) : M Val := match b, vs with
  | .len, [x] => fun μ => match lenAt x μ with
    | some n => .ok (Val.v (.int n)) μ
    | none => (do
      let p ← view x
      let r ← ofO (bi1 .len p)
      pure (Val.v r)) μ
  | .isI t, [x] => do
    let p ← view x
    let r ← ofO (bi1 (.isI t) p)
    pure (Val.v r)
  | b, [x] => do
    let p ← view x
    let r ← ofO (bi1 b p)
    pure (Val.v r)
  | b, [x, y] => do
    let p ← view x
    let q ← view y
    let r ← ofO (bi2 b p q)
    pure (Val.v r)
  | _, _ => no

def findI (x : PV) : List PV → Nat → Option Nat
  | [], _ => none
  | y :: ys, n => if eqv y x then some n else findI x ys (n + 1)
def countI (x : PV) : List PV → Nat
  | [] => 0
  | y :: ys => (if eqv y x then 1 else 0) + countI x ys
def joinS (s : List Nat) : List PV → Option (List Nat)
  | [] => some []
  | [.str x] => some x
  | .str x :: r => (joinS s r).map fun t => x ++ (s ++ t)
  | _ => none
def splitS (c : Nat) : List Nat → List Nat → List PV
  | [], acc => [.str acc.reverse]
  | x :: r, acc => if x = c then .str acc.reverse :: splitS c r [] else splitS c r (x :: acc)
/-- what a method is called on -/
def kindM (m : Me) (v : Val) : M Unit := fun μ => match m with
  | .get1 => match lenAt v μ with | some _ => .ok () μ | none => .no
  | .get2 => match lenAt v μ with | some _ => .ok () μ | none => .no
  | .join => match v with | .v (.str _) => .ok () μ | _ => .no
  | .split => match v with | .v (.str _) => .ok () μ | _ => .no
  | .indexT => match v with | .v (.tup _) => .ok () μ | _ => .no
  | _ => match view v μ with | .ok (.lst _) _ => .ok () μ | _ => .no
/-- a list of the store, that may change -/
def lstO (o : Val) (g : Nat → List PV → M Val) : M Val := fun μ => match o with
  | .o n => match μ[n]? with
    | some (.lst xs) => g n xs μ
    | _ => .no
  | _ => .no
/-- it becomes xs -/
def setL (n : Nat) (xs : List PV) (v : PV) : M Val := fun μ => .ok (Val.v v) (μ.set n (.lst xs))
/-- a method -/
def meV (m : Me) (o : Val) (vs : List Val) : M Val := match m, vs with
  | .append, [x] => do
    let p ← flat x
    lstO o fun n xs => if okN (xs.length + 1) then setL n (xs ++ [p]) .non else no
  | .extend, [x] => do
    let p ← view x
    match p with
      | .lst ys => lstO o fun n xs => if okN (xs.length + ys.length) then setL n (xs ++ ys) .non else no
      | _ => no
  | .pop, [] => lstO o fun n xs => match xs.getLast? with
    | some y => setL n xs.dropLast y
    | none => no
  | .reverse, [] => lstO o fun n xs => setL n xs.reverse .non
  | .remove, [x] => do
    let p ← flat x
    lstO o fun n xs => if dle 40 p then match findI p xs 0 with
        | some j => setL n (xs.eraseIdx j) .non
        | none => no
      else no
  | .popAt, [x] => do
    let p ← flat x
    match p with
      | .int i => lstO o fun n xs => if decide (0 ≤ i) && okN xs.length then match xs[i.toNat]? with
          | some y => setL n (xs.eraseIdx i.toNat) y
          | none => no
        else no
      | _ => no
  | .index, [x] => do
    let p ← view o
    let q ← view x
    match p with
      | .lst xs => if dle 40 q then (match findI q xs 0 with
        | some j => pure (Val.v (.int j))
        | none => no) else no
      | _ => no
  | .indexT, [x] => do
    let q ← flat x
    match o with
      | .v (.tup xs) => (if dle 40 q then (match findI q xs 0 with | some j => pure (Val.v (.int j)) | none => no) else no : M Val)
      | _ => no
  | .count, [x] => do
    let p ← view o
    let q ← view x
    match p with
      | .lst xs => if dle 40 q then pure (Val.v (.int (countI q xs))) else no
      | _ => no
  | .get1, [x] => do
    let q ← flat x
    fun μ => match dicAt o μ, keyOf q with
      | some kvs, some k => .ok (Val.v ((dget kvs k).getD .non)) μ
      | _, _ => .no
  | .get2, [x, y] => do
    let q ← flat x
    let d ← flat y
    fun μ => match dicAt o μ, keyOf q with
      | some kvs, some k => .ok (Val.v ((dget kvs k).getD d)) μ
      | _, _ => .no
  | .join, [x] => do
    let p ← view o
    let q ← view x
    match p, q with
      | .str s, .lst xs => match joinS s xs with
        | some t => if okN (t.length + s.length * xs.length) then pure (Val.v (.str t)) else no
        | none => no
      | .str s, .tup xs => match joinS s xs with
        | some t => if okN (t.length + s.length * xs.length) then pure (Val.v (.str t)) else no
        | none => no
      | _, _ => no
  | .split, [x] => do
    let p ← view o
    let q ← view x
    match p, q with
      | .str s, .str [c] => if okN (s.length + 2) then pure (Val.v (.lst (splitS c s []))) else no
      | _, _ => no
  | _, _ => no

abbrev Loc := List (Option Val)
inductive Fl where | nx | ret (v : Val)

mutual
/-- a target takes a value -/
def asgP : Pat → PV → Loc → Option Loc
  | .v i, p, l => some (l.set i (some (.v p)))
  | .t ps, p, l => match p with
    | .tup xs => asgPs ps xs l
    | .lst xs => asgPs ps xs l
    | _ => none
def asgPs : List Pat → List PV → Loc → Option Loc
  | [], xs, l => match xs with | [] => some l | _ => none
  | p :: ps, xs, l => match xs with
    | [] => none
    | x :: xs => match asgP p x l with
      | some l' => asgPs ps xs l'
      | none => none
end
def asgV : Pat → Val → Loc → Option Loc
  | .v i, v, l => some (l.set i (some v))
  | .t ps, v, l => match v with | .v p => asgP (.t ps) p l | .o _ => none
def setAll : List Nat → List Val → Loc → Option Loc
  | [], vs, l => match vs with | [] => some l | _ => none
  | i :: is, vs, l => match vs with
    | [] => none
    | v :: vs => setAll is vs (l.set i (some v))
def wipeL (l : Loc) : List Nat → Loc
  | [] => l
  | i :: is => (wipeL l is).set i none

/-- what a loop goes along, if it is a thing of the store: the thing, what stands in it -/
abbrev Srcs := List (Nat × List PV)
/-- loops go along them: nothing may change them; which were free -/
def lockM : Srcs → M (List Nat)
  | [] => pure []
  | (n, _) :: r => fun μ => match μ[n]? with
    | some (.lst xs) => (lockM r (μ.set n (.lk (.lst xs)))).bind fun ls μ' => .ok (n :: ls) μ'
    | some (.lk _) => lockM r μ
    | _ => .no
def unlockM : List Nat → M Unit
  | [] => pure ()
  | n :: r => fun μ => match μ[n]? with
    | some (.lk (.lst xs)) => unlockM r (μ.set n (.lst xs))
    | _ => .no
/-- the items -/
def seqS : Val → M (List PV × Srcs)
  | .v (.lst xs) => pure (xs, [])
  | .v (.tup xs) => pure (xs, [])
  | .v _ => no
  | .o n => fun μ => match μ[n]? with
    | some o => match seqOf o with
      | some xs => .ok (xs, [(n, xs)]) μ
      | none => .no
    | none => .no
/-- the items, of a text too -/
def seqT : Val → M (List PV × Srcs)
  | .v (.str s) => pure (s.map fun c => .str [c], [])
  | v => seqS v
/-- no exception may come of it -/
def noX {α : Type} (x : M α) : M α := fun μ => match x μ with
  | .ok a ν => .ok a ν
  | _ => .no
def consO {α : Type} : Option α → List α → List α
  | some a, ys => a :: ys
  | none, ys => ys
def compL {α : Type} (f : PV → M (Option α)) : List PV → M (List α)
  | [] => pure []
  | x :: xs => do
    let y ← f x
    let ys ← compL f xs
    pure (consO y ys)
def forL (f : PV → Loc → M (Loc × Fl)) : List PV → Loc → M (Loc × Fl)
  | [], l => pure (l, .nx)
  | x :: xs, l => do
    let r ← f x l
    match r.2 with
      | .nx => forL f xs r.1
      | .ret v => pure (r.1, .ret v)
def whileL (c : Loc → M Bool) (f : Loc → M (Loc × Fl)) : Nat → Loc → M (Loc × Fl)
  | 0, _ => no
  | n + 1, l => do
    let b ← c l
    if b then (do
      let r ← f l
      match r.2 with
        | .nx => whileL c f n r.1
        | .ret v => pure (r.1, .ret v))
    else pure (l, .nx)
def newO (o : MO) : M Val := fun μ => .ok (Val.o μ.length) (μ ++ [o])
def mkDict : List (PV × PV) → List (Ky × PV) → Option (List (Ky × PV))
  | [], d => some d
  | (k, v) :: r, d => match keyOf k with
    | some k => mkDict r (dput d k v)
    | none => none

/-- along the keys of the dict that a name holds; nothing may change it -/
def onKeys {α : Type} (i : Nat) (l : Loc) (f : List PV → M α) : M α := fun μ => match l[i]? with
  | some (some (.o n)) => match μ[n]? with
    | some (.dk kvs) => match f (kvs.map fun kv => ofKey kv.1) (μ.set n (.lk (.dk kvs))) with
      | .ok a ν => match ν[n]? with
        | some (.lk (.dk ks)) => .ok a (ν.set n (.dk ks))
        | _ => .no
      | _ => .no
    | _ => .no
  | _ => .no
def enumL : Int → List PV → List PV
  | _, [] => []
  | i, x :: xs => .tup [.int i, x] :: enumL (i + 1) xs
def zipL : List PV → List PV → List PV
  | x :: xs, y :: ys => .tup [x, y] :: zipL xs ys
  | _, _ => []

/-- a def of a written list -/
def atF {F : Type} (fs : List F) : Val → Option F
  | .v (.int n) => if 0 ≤ n then fs[n.toNat]? else none
  | _ => none
section
variable {F : Type} (C : Mode → Nat → F → List Val → M Val) (b : Nat)
def optI : Option Val → M (Option Int)
  | none => pure none
  | some v => do
    let p ← flat v
    match p with
      | .int i => pure (some i)
      | _ => no
mutual
def evE : E F → Loc → M Val
  | .var i, l => match l[i]? with
    | some (some v) => pure v
    | _ => no
  | .int i, _ => pure (Val.v (.int i))
  | .str s, _ => pure (Val.v (.str s))
  | .bl b, _ => pure (Val.v (.bl b))
  | .non, _ => pure (Val.v .non)
  | .cst p, _ => pure (Val.v p)
  | .bin o a b, l => do
    let x ← evE a l
    let y ← evE b l
    let p ← view x
    let q ← view y
    let r ← ofO (bin2 o p q)
    pure (Val.v r)
  | .neg a, l => do
    let x ← evE a l
    match x with
      | .v (.int i) => pure (Val.v (.int (-i)))
      | _ => no
  | .emp a, l => do
    let x ← evE a l
    fun μ => match dicAt x μ with
      | some kvs => .ok (Val.v (.bl kvs.isEmpty)) μ
      | none => .no
  | .cmp o a b, l => do
    let x ← evE a l
    let y ← evE b l
    cmpV o x y
  | .cmp2 o p a b c, l => do
    let x ← evE a l
    let y ← evE b l
    let r ← cmpV o x y
    match r with
      | .v (.bl true) => do
        let z ← evE c l
        cmpV p y z
      | .v (.bl false) => pure (Val.v (.bl false))
      | _ => no
  | .and a b, l => do
    let x ← evE a l
    match x with
      | .v (.bl true) => evE b l
      | .v (.bl false) => pure (Val.v (.bl false))
      | _ => no
  | .or a b, l => do
    let x ← evE a l
    match x with
      | .v (.bl true) => pure (Val.v (.bl true))
      | .v (.bl false) => evE b l
      | _ => no
  | .not a, l => do
    let x ← evE a l
    match x with
      | .v (.bl b) => pure (Val.v (.bl (!b)))
      | _ => no
  | .ite c a b, l => do
    let x ← evT c l
    if x then evE a l else evE b l
  | .tup es, l => do
    let vs ← evEs es l
    let ps ← flats vs
    pure (Val.v (.tup ps))
  | .lst es, l => do
    let vs ← evEs es l
    let ps ← flats vs
    pure (Val.v (.lst ps))
  | .idx a i, l => do
    let x ← evE a l
    let y ← evE i l
    let q ← flat y
    fun μ => match dicAt x μ with
      | some kvs => match keyOf q with
        | some k => match dget kvs k with
          | some v => .ok (Val.v v) μ
          | none => .no
        | none => .no
      | none => (do
        let p ← view x
        match p, q with
          | .tup xs, .int i => do
            let r ← ofO (atN xs i)
            pure (Val.v r)
          | .lst xs, .int i => do
            let r ← ofO (atN xs i)
            pure (Val.v r)
          | .str xs, .int i => do
            let r ← ofO (atS xs i)
            pure (Val.v r)
          | _, _ => no) μ
  | .slc a lo hi, l => do
    let x ← evE a l
    let i ← evO lo l
    let j ← evO hi l
    let p ← view x
    match p with
      | .tup xs => pure (Val.v (.tup (cut xs i j)))
      | .lst xs => pure (Val.v (.lst (cut xs i j)))
      | .str xs => if okN xs.length then pure (Val.v (.str (cut xs i j))) else no
      | _ => no
  | .call m f es, l => do
    let vs ← evEs es l
    C m b f vs
  | .callL m fs i es, l => do
    let x ← evE i l
    let f ← ofO (atF fs x)
    let vs ← evEs es l
    C m b f vs
  | .bad, _ => no
  | .bi o es, l => do
    let vs ← evEs es l
    biV o vs
  | .me m o es, l => do
    let x ← evE o l
    kindM m x
    let vs ← evEs es l
    meV m x vs
  | .comp elt p it cs own, l => do
    let r ← evI it l
    let ls ← lockM r.2
    let ys ← compL (fun x => noX (match asgP p x (wipeL l own) with
      | some l' => do
        let ok ← evC cs l'
        if ok then (do
          let v ← evE elt l'
          let y ← flat v
          pure (some y))
        else pure none
      | none => no)) r.1
    unlockM ls
    if okN ys.length then pure (Val.v (.lst ys)) else no
  | .lenSet elt p it cs own, l => do
    let r ← evI it l
    let ls ← lockM r.2
    let ys ← compL (fun x => noX (match asgP p x (wipeL l own) with
      | some l' => do
        let ok ← evC cs l'
        if ok then (do
          let v ← evE elt l'
          let y ← flat v
          pure (some y))
        else pure none
      | none => no)) r.1
    unlockM ls
    match keysOf ys with
      | some ks => if Nat.ble ks.length 4000 then pure (Val.v (.int (onceK ks).length)) else no
      | none => no
  | .own f, l => do
    let o ← evF f l
    newO o
  | .compK elt p i cs own, l => onKeys i l fun xs => do
    let ys ← compL (fun x => noX (match asgP p x (wipeL l own) with
      | some l' => do
        let ok ← evC cs l'
        if ok then (do
          let v ← evE elt l'
          let y ← flat v
          pure (some y))
        else pure none
      | none => no)) xs
    if okN ys.length then pure (Val.v (.lst ys)) else no
def evEs : List (E F) → Loc → M (List Val)
  | [], _ => pure []
  | e :: es, l => do
    let v ← evE e l
    let vs ← evEs es l
    pure (v :: vs)
def evO : Option (E F) → Loc → M (Option Int)
  | none, _ => pure none
  | some e, l => do
    let v ← evE e l
    optI (some v)
/-- the tests of a comprehension -/
def evC : List (Cn F) → Loc → M Bool
  | [], _ => pure true
  | c :: cs, l => do
    let x ← evT c l
    if x then evC cs l else pure false
/-- a test -/
def evT : Cn F → Loc → M Bool
  | .and a b, l => do
    let x ← evT a l
    if x then evT b l else pure false
  | .or a b, l => do
    let x ← evT a l
    if x then pure true else evT b l
  | .not a, l => do
    let x ← evT a l
    pure (!x)
  | .e e, l => do
    let v ← evE e l
    truth v
def evF : OF F → Loc → M MO
  | .lst es, l => do
    let vs ← evEs es l
    let ps ← flats vs
    pure (.lst ps)
  | .dk, _ => pure (.dk [])
  | .dt, _ => pure (.dt [])
  | .rep a c, l => do
    let x ← evE a l
    let y ← evE c l
    let p ← view x
    let q ← view y
    let r ← ofO (bin2 .mul p q)
    match r with
      | .lst xs => pure (.lst xs)
      | _ => no
  | .comp elt p it cs own, l => do
    let r ← evI it l
    let ls ← lockM r.2
    let ys ← compL (fun x => noX (match asgP p x (wipeL l own) with
      | some l' => do
        let ok ← evC cs l'
        if ok then (do
          let v ← evE elt l'
          let y ← flat v
          pure (some y))
        else pure none
      | none => no)) r.1
    unlockM ls
    if okN ys.length then pure (.lst ys) else no
  | .dcomp k e p it cs own, l => do
    let r ← evI it l
    let ls ← lockM r.2
    let ys ← compL (fun x => noX (match asgP p x (wipeL l own) with
      | some l' => do
        let ok ← evC cs l'
        if ok then (do
          let kv ← evE k l'
          let kp ← flat kv
          let v ← evE e l'
          let y ← flat v
          pure (some (kp, y)))
        else pure none
      | none => no)) r.1
    unlockM ls
    if okN ys.length then (do
      let d ← ofO (mkDict ys [])
      pure (.dk d)) else no
  | .dcompK k e p i cs own, l => onKeys i l fun xs => do
    let ys ← compL (fun x => noX (match asgP p x (wipeL l own) with
      | some l' => do
        let ok ← evC cs l'
        if ok then (do
          let kv ← evE k l'
          let kp ← flat kv
          let v ← evE e l'
          let y ← flat v
          pure (some (kp, y)))
        else pure none
      | none => no)) xs
    if okN ys.length then (do
      let d ← ofO (mkDict ys [])
      pure (.dk d)) else no
  | .listOf e, l => do
    let x ← evE e l
    let p ← view x
    match p with
      | .lst xs => pure (.lst xs)
      | .tup xs => pure (.lst xs)
      | _ => no
  | .dictOf e, l => do
    let x ← evE e l
    fun μ => match x with
      | .o n => match μ[n]? with
        | some o => match o.bare with
          | .dk kvs => .ok (.dk kvs) μ
          | _ => .no
        | none => .no
      | _ => .no
def evI : It F → Loc → M (List PV × Srcs)
  | .seq e, l => do
    let x ← evE e l
    seqT x
  | .range1 e, l => do
    let x ← evE e l
    match x with
      | .v (.int n) => if decide (n < 4611686018427387904) && decide (-4611686018427387904 ≤ n) then pure (rangeL 0 n.toNat, []) else no
      | _ => no
  | .range2 a c, l => do
    let x ← evE a l
    let y ← evE c l
    match x, y with
      | .v (.int m), .v (.int n) =>
        if decide (m < 4611686018427387904) && decide (-4611686018427387904 ≤ m) && decide (n < 4611686018427387904) && decide (-4611686018427387904 ≤ n)
        then pure (rangeL m (n - m).toNat, []) else no
      | _, _ => no
  | .enum e, l => do
    let x ← evE e l
    let r ← seqT x
    pure (enumL 0 r.1, r.2)
  | .zip a c, l => do
    let x ← evE a l
    let y ← evE c l
    let r ← seqS x
    let q ← seqS y
    pure (zipL r.1 q.1, r.2 ++ q.2)
end
end

mutual
/-- the same value -/
def same : PV → PV → Bool
  | .non, y => match y with | .non => true | _ => false
  | .bl a, y => match y with | .bl b => a == b | _ => false
  | .int a, y => match y with | .int b => decide (a = b) | _ => false
  | .str a, y => match y with | .str b => decide (a = b) | _ => false
  | .tup a, y => match y with | .tup b => sames a b | _ => false
  | .lst a, y => match y with | .lst b => sames a b | _ => false
def sames : List PV → List PV → Bool
  | [], ys => match ys with | [] => true | _ => false
  | x :: xs, ys => match ys with | [] => false | y :: ys => same x y && sames xs ys
end
mutual
theorem same_eq : ∀ (p q : PV), same p q = true → p = q
  | .non, q, h => by cases q <;> simp [same] at h; rfl
  | .bl a, q, h => by cases q <;> simp [same] at h; rw [h]
  | .int a, q, h => by cases q <;> simp [same] at h; rw [h]
  | .str a, q, h => by cases q <;> simp [same] at h; rw [h]
  | .tup a, q, h => by cases q <;> simp [same] at h; rw [sames_eq a _ h]
  | .lst a, q, h => by cases q <;> simp [same] at h; rw [sames_eq a _ h]
theorem sames_eq : ∀ (p q : List PV), sames p q = true → p = q
  | [], q, h => by cases q <;> simp [sames] at h; rfl
  | x :: xs, q, h => by
    cases q with
    | nil => simp [sames] at h
    | cons y ys =>
      simp only [sames, Bool.and_eq_true] at h
      rw [same_eq x y h.1, sames_eq xs ys h.2]
end
/-- no locked thing here -/
def freeM : Mem → Bool
  | [] => true
  | .lk _ :: _ => false
  | _ :: μ => freeM μ
/-- an exception -/
def exnM {α : Type} (c : Nat) : M α := fun μ => .exn c μ
def wordX : List Nat := [114, 101, 102, 117, 115, 101, 100]
def valX (r : Option PV) (c : Nat) : PV := match r with
  | some p => p
  | none => .tup [.str wordX, .int c]
/-- what an except clause does -/
def catchM (n : Nat) (k : Option Nat) (r : Option PV) (l : Loc) (x : M (Loc × Fl)) : M (Loc × Fl) := fun μ => match x μ with
  | .ok z ν => .ok z ν
  | .exn c ν => if Nat.blt c n && freeM μ then (match k with
    | none => .ok (l, .ret (.v (valX r c))) ν
    | some d => if c = d then .ok (l, .ret (.v (valX r c))) ν else .exn c ν) else .no
  | .no => .no
section
variable {F : Type} (C : Mode → Nat → F → List Val → M Val) (b : Nat)
def whFuel : Nat := 1000000
def lift2 (r : Option Loc) : M (Loc × Fl) := match r with
  | some l => pure (l, .nx)
  | none => no
/-- x[q] = p -/
def putI (x : Val) (q p : PV) : M Unit := fun μ => match x with
  | .o n => match μ[n]? with
    | some (.lst xs) => match q with
      | .int i => if decide (0 ≤ i) && decide (i < xs.length) then .ok () (μ.set n (.lst (xs.set i.toNat p))) else .no
      | _ => .no
    | some (.dk kvs) => match keyOf q with
      | some k => if okN (kvs.length + 1) then .ok () (μ.set n (.dk (dput kvs k p))) else .no
      | none => .no
    | _ => .no
  | _ => .no
/-- x[q, ..] = p -/
def putT (x : Val) (qs : List PV) (p : PV) : M Unit := fun μ => match x with
  | .o n => match μ[n]? with
    | some (.dt kvs) => match keysOf qs with
      | some ks => if okN (kvs.length + 1) then .ok () (μ.set n (.dt (dput kvs ks p))) else .no
      | none => .no
    | _ => .no
  | _ => .no
/-- name op= value -/
def augV (o : Op2) (i : Nat) (l : Loc) (x y : Val) : M (Loc × Fl) := match o, x, y with
  | .add, .v (.int m), .v (.int n) => pure (l.set i (some (.v (.int (m + n)))), .nx)
  | .sub, .v (.int m), .v (.int n) => pure (l.set i (some (.v (.int (m - n)))), .nx)
  | _, _, _ => no
mutual
def evS : S F → Loc → M (Loc × Fl)
  | .asg p e, l => do
    let v ← evE C b e l
    lift2 (asgV p v l)
  | .par is es, l => do
    let vs ← evEs C b es l
    lift2 (setAll is vs l)
  | .aug i o e, l => do
    let x ← evE C b (.var i) l
    let y ← evE C b e l
    augV o i l x y
  | .setItem o i e, l => do
    let v ← evE C b e l
    let x ← evE C b o l
    let y ← evE C b i l
    let p ← flat v
    let q ← flat y
    putI x q p
    pure (l, .nx)
  | .setTup o is e, l => do
    let v ← evE C b e l
    let x ← evE C b o l
    let ys ← evEs C b is l
    let p ← flat v
    let qs ← flats ys
    putT x qs p
    pure (l, .nx)
  | .expr e, l => do
    let _ ← evE C b e l
    pure (l, .nx)
  | .ret e, l => do
    let v ← evE C b e l
    pure (l, .ret v)
  | .ite c s t, l => do
    let x ← evT C b c l
    if x then evB s l else evB t l
  | .for p it body, l => do
    let r ← evI C b it l
    let ls ← lockM r.2
    let z ← forL (fun x l => match asgP p x l with
      | some l' => evB body l'
      | none => no) r.1 l
    unlockM ls
    pure z
  | .forK p i body, l => onKeys i l fun xs => forL (fun x l => match asgP p x l with
      | some l' => evB body l'
      | none => no) xs l
  | .whl c body, l => whileL (fun l => evT C b c l) (fun l => evB body l) whFuel l
  | .raise c, _ => exnM c
  | .bad, _ => no
  | .tryX n k r body, l => catchM n k r l (evB body l)
def evB : List (S F) → Loc → M (Loc × Fl)
  | [], l => pure (l, .nx)
  | s :: r, l => do
    let z ← evS s l
    match z.2 with
      | .nx => evB r z.1
      | .ret v => pure (z.1, .ret v)
end
end

structure FD (F : Type) where
  np : Nat
  nl : Nat
  body : List (S F)
/-- a call's end -/
def fin (m : Mode) (b : Nat) : Val → Mem → Res Val
  | .v p, μ => match m with
    | .val => .ok (Val.v p) (μ.take b)
    | .own => .no
    | .raw => .ok (Val.v p) μ
  | .o n, μ => match m with
    | .val => if n < b then .ok (Val.o n) (μ.take b) else match μ[n]? with
      | some (.lst xs) => .ok (Val.v (.lst xs)) (μ.take b)
      | _ => .no
    | .own => if n < b then .no else match μ[n]? with
      | some (.lst xs) => .ok (Val.o b) (μ.take b ++ [.lst xs])
      | some (.dk xs) => .ok (Val.o b) (μ.take b ++ [.dk xs])
      | some (.dt xs) => .ok (Val.o b) (μ.take b ++ [.dt xs])
      | _ => .no
    | .raw => .ok (Val.o n) μ
def baseM (m : Mode) (b : Nat) (μ : Mem) : Nat := match m with
  | .raw => b
  | _ => μ.length
def cutM (m : Mode) (c : Nat) (μ : Mem) : Mem := match m with
  | .raw => μ
  | _ => μ.take c
def endF (m : Mode) (c : Nat) : Res (Loc × Fl) → Res Val
  | .ok (_, .ret v) μ => fin m c v μ
  | .ok (_, .nx) μ => fin m c (.v .non) μ
  | .exn e μ => .exn e (cutM m c μ)
  | .no => .no
section
variable {F : Type} (T : F → FD F)
def runF (C : Mode → Nat → F → List Val → M Val) (m : Mode) (b : Nat) (f : F) (vs : List Val) : M Val := fun μ =>
  if vs.length = (T f).np then
    endF m (baseM m b μ) (evB C (baseM m b μ) (T f).body (vs.map some ++ List.replicate ((T f).nl - (T f).np) none) μ)
  else .no
def callN : Nat → Mode → Nat → F → List Val → M Val
  | 0, _, _, _, _ => no
  | k + 1, m, b, f, vs => runF T (callN k) m b f vs
end
end SW
end
section
open PySem
end
section
set_option maxRecDepth 100000
/-! The relation between SwIR's values and the layer's abstract heap. -/
namespace SWS
open PySem PySem.Spec L2
open SW (PV Val MO Ky Mem Res M E OF It Cn Pat Fl)

def toS (s : List Nat) : Str := ⟨s.toArray⟩
theorem toS_inj {s t : List Nat} : toS s = toS t ↔ s = t := by
  constructor
  · intro h
    have h1 : s.toArray = t.toArray := congrArg Str.cps h
    simpa using h1
  · rintro rfl; rfl
theorem toS_len (s : List Nat) : (toS s).length = s.length := by simp [toS, Str.length]
mutual
def toD : PV → PyData
  | .non => .none
  | .bl b => .bool b
  | .int i => .int i
  | .str s => .str (toS s)
  | .tup xs => .tuple (toDs xs)
  | .lst xs => .list (toDs xs)
def toDs : List PV → List PyData
  | [] => []
  | x :: xs => toD x :: toDs xs
end
theorem toDs_map : ∀ xs : List PV, toDs xs = xs.map toD
  | [] => rfl
  | x :: xs => by rw [toDs, List.map_cons, toDs_map xs]
mutual
theorem plain_toD : ∀ p : PV, (toD p).plain = true
  | .non => rfl
  | .bl b => rfl
  | .int i => rfl
  | .str s => rfl
  | .tup xs => by simp only [toD, PyData.plain]; exact plain_toDs xs
  | .lst xs => by simp only [toD, PyData.plain]; exact plain_toDs xs
theorem plain_toDs : ∀ xs : List PV, PyData.plainAll (toDs xs) = true
  | [] => rfl
  | x :: xs => by simp only [toDs, PyData.plainAll, plain_toD x, plain_toDs xs, Bool.and_self]
end
theorem toS_beq (s t : List Nat) : (toS s == toS t) = decide (s = t) := by
  by_cases h : s = t
  · subst h; simp
  · have h' : toS s ≠ toS t := fun e => h (toS_inj.mp e)
    rw [decide_eq_false h]
    exact beq_eq_false_iff_ne.mpr h'
theorem int_beq (i j : Int) : (i == j) = decide (i = j) := by
  by_cases h : i = j
  · subst h; simp
  · rw [decide_eq_false h]; exact beq_eq_false_iff_ne.mpr h
mutual
theorem eqv_toD : ∀ p q : PV, PyData.eqv (toD p) (toD q) = SW.eqv p q
  | .non, q => by cases q <;> simp [toD, PyData.eqv, SW.eqv]
  | .bl a, q => by cases q <;> simp [toD, PyData.eqv, SW.eqv, int_beq]
  | .int i, q => by cases q <;> simp [toD, PyData.eqv, SW.eqv, int_beq]
  | .str s, q => by cases q <;> simp [toD, PyData.eqv, SW.eqv, toS_beq]
  | .tup xs, q => by cases q <;> simp [toD, PyData.eqv, SW.eqv, eqvs_toD xs]
  | .lst xs, q => by cases q <;> simp [toD, PyData.eqv, SW.eqv, eqvs_toD xs]
theorem eqvs_toD : ∀ ps qs : List PV, PyData.eqvAll (toDs ps) (toDs qs) = SW.eqvs ps qs
  | [], qs => by cases qs <;> simp [toDs, PyData.eqvAll, SW.eqvs]
  | p :: ps, qs => by cases qs <;> simp [toDs, PyData.eqvAll, SW.eqvs, eqv_toD p, eqvs_toD ps]
end
mutual
theorem depth_le : ∀ (p : PV) (n : Nat), SW.dle n p = true → (toD p).depth ≤ n
  | .non, n, _ => Nat.zero_le _
  | .bl _, n, _ => Nat.zero_le _
  | .int _, n, _ => Nat.zero_le _
  | .str _, n, _ => Nat.zero_le _
  | .tup xs, 0, h => by simp [SW.dle] at h
  | .tup xs, n + 1, h => by
    simp only [SW.dle] at h
    simp only [toD, PyData.depth]
    have := depths_le xs n h
    omega
  | .lst xs, 0, h => by simp [SW.dle] at h
  | .lst xs, n + 1, h => by
    simp only [SW.dle] at h
    simp only [toD, PyData.depth]
    have := depths_le xs n h
    omega
theorem depths_le : ∀ (ps : List PV) (n : Nat), SW.dles n ps = true → PyData.depthAll (toDs ps) ≤ n
  | [], n, _ => Nat.zero_le _
  | p :: ps, n, h => by
    simp only [SW.dles, Bool.and_eq_true] at h
    simp only [toDs, PyData.depthAll]
    have h1 := depth_le p n h.1
    have h2 := depths_le ps n h.2
    omega
end
theorem anyEq_toD (x : PV) : ∀ ys : List PV, ((toDs ys).any fun y => PyData.eqv y (toD x)) = SW.anyEq x ys
  | [] => rfl
  | y :: ys => by simp only [toDs, List.any_cons, SW.anyEq, eqv_toD, anyEq_toD x ys]

/-! ### values represented -/
abbrev Fg := PySem.W.Frag
mutual
/-- a value, by what stands in the part of the heap that never changes -/
inductive Rep (K : Fg) (R : Hp) : PV → V → Prop
  | non : Rep K R .non .non
  | bl (b : Bool) : Rep K R (.bl b) (.bl b)
  | int (i : Int) : Rep K R (.int i) (.int i)
  | str (s : List Nat) : Rep K R (.str s) (.str (toS s))
  | tup {a : Addr} {vs : List V} {ps : List PV} : SqT K R a vs → Reps K R ps vs → Rep K R (.tup ps) (.ref a)
  | lst {a : Addr} {vs : List V} {ps : List PV} : Rd R a (.lst vs) → Reps K R ps vs → Rep K R (.lst ps) (.ref a)
inductive Reps (K : Fg) (R : Hp) : List PV → List V → Prop
  | nil : Reps K R [] []
  | cons {p : PV} {x : V} {ps : List PV} {xs : List V} : Rep K R p x → Reps K R ps xs → Reps K R (p :: ps) (x :: xs)
end
def Sub (R R' : Hp) : Prop := ∀ a o, R a = some o → R' a = some o
theorem Sub.refl (R : Hp) : Sub R R := fun _ _ h => h
theorem Sub.trans {R R' R'' : Hp} (h : Sub R R') (h' : Sub R' R'') : Sub R R'' := fun a o e => h' a o (h a o e)
section
variable {K : Fg} {R R' H : Hp}
theorem Rd.mono (s : Sub R R') {a : Addr} {u : HO} : Rd R a u → Rd R' a u
  | .inl h => .inl (s _ _ h)
  | .inr ⟨o, h⟩ => .inr ⟨o, s _ _ h⟩
theorem SqT.mono (s : Sub R R') {a : Addr} {xs : List V} : SqT K R a xs → SqT K R' a xs
  | .inl h => .inl (Rd.mono s h)
  | .inr h => .inr h
mutual
theorem Rep.mono (s : Sub R R') : ∀ {p : PV} {x : V}, Rep K R p x → Rep K R' p x
  | .non, _, h => by cases h; exact .non
  | .bl b, _, h => by cases h; exact .bl b
  | .int i, _, h => by cases h; exact .int i
  | .str i, _, h => by cases h; exact .str i
  | .lst ds, _, h => by
    cases h with
    | lst h1 h2 => exact .lst (Rd.mono s h1) (Reps.mono s h2)
  | .tup ds, _, h => by
    cases h with
    | tup h1 h2 => exact .tup (SqT.mono s h1) (Reps.mono s h2)
theorem Reps.mono (s : Sub R R') : ∀ {ps : List PV} {xs : List V}, Reps K R ps xs → Reps K R' ps xs
  | [], _, h => by cases h; exact .nil
  | d :: ds, _, h => by
    cases h with
    | cons h1 h2 => exact .cons (Rep.mono s h1) (Reps.mono s h2)
end
mutual
theorem Rep.dp : ∀ {p : PV} {x : V}, Rep K R p x → Dp K R x (toD p)
  | .non, _, h => by cases h; exact .non
  | .bl b, _, h => by cases h; exact .bl b
  | .int i, _, h => by cases h; exact .int i
  | .str i, _, h => by cases h; exact .str _
  | .lst ds, _, h => by
    cases h with
    | lst h1 h2 => rw [toD]; exact .lst (.inl h1) (Reps.dp h2)
  | .tup ds, _, h => by
    cases h with
    | tup h1 h2 => rw [toD]; exact .tup h1 (Reps.dp h2)
theorem Reps.dp : ∀ {ps : List PV} {xs : List V}, Reps K R ps xs → DpAll K R xs (toDs ps)
  | [], _, h => by cases h; exact .nil
  | d :: ds, _, h => by
    cases h with
    | cons h1 h2 => exact .cons (Rep.dp h1) (Reps.dp h2)
end
theorem Reps.length : ∀ {ps : List PV} {xs : List V}, Reps K R ps xs → xs.length = ps.length
  | [], _, h => by cases h; rfl
  | p :: ps, _, h => by
    cases h with
    | cons _ h2 => simp [Reps.length h2]
theorem Reps.cons_inv {p : PV} {ps : List PV} {xs : List V} (h : Reps K R (p :: ps) xs) : ∃ y ys, xs = y :: ys ∧ Rep K R p y ∧ Reps K R ps ys := by
  cases h with
  | cons h1 h2 => exact ⟨_, _, rfl, h1, h2⟩
theorem Reps.nil_inv {xs : List V} (h : Reps K R [] xs) : xs = [] := by cases h; rfl
theorem Reps.append : ∀ {ps qs : List PV} {xs ys : List V}, Reps K R ps xs → Reps K R qs ys → Reps K R (ps ++ qs) (xs ++ ys)
  | [], _, _, _, h, h' => by cases h; exact h'
  | p :: ps, _, _, _, h, h' => by
    obtain ⟨y, ys, rfl, h1, h2⟩ := h.cons_inv
    exact .cons h1 (Reps.append h2 h')
theorem Reps.get : ∀ {ps : List PV} {xs : List V} {i : Nat} {p : PV}, Reps K R ps xs → ps[i]? = some p → ∃ x, xs[i]? = some x ∧ Rep K R p x
  | [], _, _, _, _, e => by simp at e
  | p :: ps, _, i, q, h, e => by
    obtain ⟨y, ys, rfl, h1, h2⟩ := h.cons_inv
    cases i with
    | zero => simp at e; subst e; exact ⟨y, rfl, h1⟩
    | succ i => simpa using Reps.get (i := i) h2 (by simpa using e)
theorem Reps.get' {ps : List PV} {xs : List V} {i : Nat} {x : V} (h : Reps K R ps xs) (e : xs[i]? = some x) : ∃ p, ps[i]? = some p ∧ Rep K R p x := by
  obtain ⟨hi, e'⟩ := List.getElem?_eq_some_iff.mp e
  have hl := h.length
  obtain ⟨y, e2, r⟩ := h.get (i := i) (p := ps[i]'(by omega)) (List.getElem?_eq_getElem (by omega))
  rw [e] at e2; cases e2
  exact ⟨_, List.getElem?_eq_getElem (by omega), r⟩
theorem Reps.take : ∀ {ps : List PV} {xs : List V} (n : Nat), Reps K R ps xs → Reps K R (ps.take n) (xs.take n)
  | _, _, 0, _ => by simp; exact .nil
  | [], _, n + 1, h => by cases h; exact .nil
  | p :: ps, _, n + 1, h => by
    obtain ⟨y, ys, rfl, h1, h2⟩ := h.cons_inv
    exact .cons h1 (Reps.take n h2)
theorem Reps.drop : ∀ {ps : List PV} {xs : List V} (n : Nat), Reps K R ps xs → Reps K R (ps.drop n) (xs.drop n)
  | _, _, 0, h => h
  | [], _, n + 1, h => by cases h; exact .nil
  | p :: ps, _, n + 1, h => by
    obtain ⟨y, ys, rfl, h1, h2⟩ := h.cons_inv
    exact Reps.drop n h2
theorem Reps.set {p : PV} {x : V} (r : Rep K R p x) : ∀ {ps : List PV} {xs : List V} (i : Nat), Reps K R ps xs → Reps K R (ps.set i p) (xs.set i x)
  | [], _, _, h => by cases h; exact .nil
  | q :: ps, _, 0, h => by
    obtain ⟨y, ys, rfl, h1, h2⟩ := h.cons_inv
    exact .cons r h2
  | q :: ps, _, i + 1, h => by
    obtain ⟨y, ys, rfl, h1, h2⟩ := h.cons_inv
    exact .cons h1 (Reps.set r i h2)
theorem Reps.eraseIdx : ∀ {ps : List PV} {xs : List V} (i : Nat), Reps K R ps xs → Reps K R (ps.eraseIdx i) (xs.eraseIdx i)
  | [], _, _, h => by cases h; exact .nil
  | q :: ps, _, 0, h => by
    obtain ⟨y, ys, rfl, h1, h2⟩ := h.cons_inv
    exact h2
  | q :: ps, _, i + 1, h => by
    obtain ⟨y, ys, rfl, h1, h2⟩ := h.cons_inv
    exact .cons h1 (Reps.eraseIdx i h2)
theorem Reps.reverse {ps : List PV} {xs : List V} (h : Reps K R ps xs) : Reps K R ps.reverse xs.reverse := by
  induction ps generalizing xs with
  | nil => cases h; exact .nil
  | cons p ps ih =>
    obtain ⟨y, ys, rfl, h1, h2⟩ := h.cons_inv
    rw [List.reverse_cons, List.reverse_cons]
    exact (ih h2).append (.cons h1 .nil)
theorem Reps.dropLast {ps : List PV} {xs : List V} (h : Reps K R ps xs) : Reps K R ps.dropLast xs.dropLast := by
  rw [List.dropLast_eq_take, List.dropLast_eq_take, h.length]
  exact h.take _

theorem Rep.non_inv {x : V} (h : Rep K R .non x) : x = .non := by cases h; rfl
theorem Rep.bl_inv {b : Bool} {x : V} (h : Rep K R (.bl b) x) : x = .bl b := by cases h; rfl
theorem Rep.int_inv {i : Int} {x : V} (h : Rep K R (.int i) x) : x = .int i := by cases h; rfl
theorem Rep.str_inv {s : List Nat} {x : V} (h : Rep K R (.str s) x) : x = .str (toS s) := by cases h; rfl
theorem Rep.tup_inv {ps : List PV} {x : V} (h : Rep K R (.tup ps) x) : ∃ a xs, x = .ref a ∧ SqT K R a xs ∧ Reps K R ps xs := by
  cases h with
  | tup h1 h2 => exact ⟨_, _, rfl, h1, h2⟩
theorem Rep.lst_inv {ps : List PV} {x : V} (h : Rep K R (.lst ps) x) : ∃ a xs, x = .ref a ∧ Rd R a (.lst xs) ∧ Reps K R ps xs := by
  cases h with
  | lst h1 h2 => exact ⟨_, _, rfl, h1, h2⟩
end

/-! ### the store -/
def skey : Int ⊕ List Nat → Key
  | .inl i => .inl i
  | .inr s => .inr (toS s)
theorem skey_inj {a b : Int ⊕ List Nat} (h : skey a = skey b) : a = b := by
  cases a <;> cases b <;> simp [skey] at h
  · exact congrArg _ h
  · exact congrArg _ (toS_inj.mp h)
theorem map_inj {α β : Type} {f : α → β} (hf : ∀ a b, f a = f b → a = b) : ∀ {xs ys : List α}, xs.map f = ys.map f → xs = ys
  | [], [], _ => rfl
  | [], _ :: _, h => by simp at h
  | _ :: _, [], h => by simp at h
  | x :: xs, y :: ys, h => by
    simp only [List.map_cons, List.cons.injEq] at h
    rw [hf _ _ h.1, map_inj hf h.2]
def skeys (ks : List Ky) : List Key := ks.map skey
theorem skeys_inj {a b : List Ky} (h : skeys a = skeys b) : a = b := map_inj (fun _ _ => skey_inj) h

def KR {κ κ' : Type} (K : Fg) (R : Hp) (f : κ → κ') : List (κ × PV) → List (κ' × V) → Prop := Paired fun p q => f p.1 = q.1 ∧ Rep K R p.2 q.2
/-- what stands at a, of a thing -/
def OR (K : Fg) (R : Hp) (H : Hp) (a : Addr) : MO → Prop
  | .lst xs => ∃ vs, H a = some (.lst vs) ∧ Reps K R xs vs
  | .dk kvs => ∃ ks, H a = some (.dK ks) ∧ KR K R skey kvs ks
  | .dt kvs => ∃ ks, H a = some (.dT ks) ∧ KR K R skeys kvs ks
  | .lk (.lst xs) => ∃ vs, H a = some (.lst vs) ∧ Reps K R xs vs
  | .lk (.dk kvs) => ∃ ob ks, H a = some (.frz ob (.dK ks)) ∧ KR K R skey kvs ks
  | .lk (.dt kvs) => ∃ ob ks, H a = some (.frz ob (.dT ks)) ∧ KR K R skeys kvs ks
  | _ => False
structure MR (F : Hp) (K : Fg) (R : Hp) (ρ : List Addr) (μ : Mem) (H : Hp) : Prop where
  fr : Sub F H
  frR : ∀ a o, F a = some o → R a = none ∧ (a ∈ ρ → ∃ ob u, o = .frz ob u)
  sub : Sub R H
  len : ρ.length = μ.length
  nd : ρ.Nodup
  out : ∀ a ∈ ρ, R a = none
  obj : ∀ (n : Nat) (o : MO) (a : Addr), μ[n]? = some o → ρ[n]? = some a → OR K R H a o
def VR (K : Fg) (R : Hp) (ρ : List Addr) : Val → V → Prop
  | .v p, x => Rep K R p x
  | .o n, x => ∃ a, ρ[n]? = some a ∧ x = .ref a
inductive VRs (K : Fg) (R : Hp) (ρ : List Addr) : List Val → List V → Prop
  | nil : VRs K R ρ [] []
  | cons {v : Val} {x : V} {vs : List Val} {xs : List V} : VR K R ρ v x → VRs K R ρ vs xs → VRs K R ρ (v :: vs) (x :: xs)
structure SR (K : Fg) (R : Hp) (ρ : List Addr) (l : SW.Loc) (σ : L2.St) : Prop where
  len : l.length = σ.length
  get : ∀ (i : Nat) (v : Val), l[i]? = some (some v) → ∃ x, σ[i]? = some (some x) ∧ VR K R ρ v x
section
variable {K : Fg} {R R' H H' : Hp} {ρ ρ' : List Addr} {μ : Mem}
theorem KR.mono {κ κ' : Type} {f : κ → κ'} (s : Sub R R') {kvs : List (κ × PV)} {ks : List (κ' × V)} (h : KR K R f kvs ks) : KR K R' f kvs ks :=
  Paired.mapP h fun _ _ q => ⟨q.1, q.2.mono s⟩
theorem OR.mono (s : Sub R R') {a : Addr} {o : MO} (h : OR K R H a o) : OR K R' H a o := by
  cases o with
  | lst xs => obtain ⟨vs, e, r⟩ := h; exact ⟨vs, e, r.mono s⟩
  | dk kvs => obtain ⟨vs, e, r⟩ := h; exact ⟨vs, e, r.mono s⟩
  | dt kvs => obtain ⟨vs, e, r⟩ := h; exact ⟨vs, e, r.mono s⟩
  | lk o =>
    cases o with
    | lst xs => obtain ⟨vs, e, r⟩ := h; exact ⟨vs, e, r.mono s⟩
    | dk kvs => obtain ⟨ob, vs, e, r⟩ := h; exact ⟨ob, vs, e, r.mono s⟩
    | dt kvs => obtain ⟨ob, vs, e, r⟩ := h; exact ⟨ob, vs, e, r.mono s⟩
    | lk o => exact h.elim
    | ins c fs => exact h.elim
  | ins c fs => exact h.elim
/-- the same place in another heap -/
theorem OR.at {a : Addr} {o : MO} (h : OR K R H a o) (e : H' a = H a) : OR K R H' a o := by
  cases o with
  | lst xs => obtain ⟨vs, e', r⟩ := h; exact ⟨vs, e.trans e', r⟩
  | dk kvs => obtain ⟨vs, e', r⟩ := h; exact ⟨vs, e.trans e', r⟩
  | dt kvs => obtain ⟨vs, e', r⟩ := h; exact ⟨vs, e.trans e', r⟩
  | lk o =>
    cases o with
    | lst xs => obtain ⟨vs, e', r⟩ := h; exact ⟨vs, e.trans e', r⟩
    | dk kvs => obtain ⟨ob, vs, e', r⟩ := h; exact ⟨ob, vs, e.trans e', r⟩
    | dt kvs => obtain ⟨ob, vs, e', r⟩ := h; exact ⟨ob, vs, e.trans e', r⟩
    | lk o => exact h.elim
    | ins c fs => exact h.elim
  | ins c fs => exact h.elim
theorem OR.some {a : Addr} {o : MO} (h : OR K R H a o) : ∃ u, H a = Option.some u := by
  cases o with
  | lst xs => obtain ⟨vs, e, r⟩ := h; exact ⟨_, e⟩
  | dk kvs => obtain ⟨vs, e, r⟩ := h; exact ⟨_, e⟩
  | dt kvs => obtain ⟨vs, e, r⟩ := h; exact ⟨_, e⟩
  | lk o =>
    cases o with
    | lst xs => obtain ⟨vs, e, r⟩ := h; exact ⟨_, e⟩
    | dk kvs => obtain ⟨ob, vs, e, r⟩ := h; exact ⟨_, e⟩
    | dt kvs => obtain ⟨ob, vs, e, r⟩ := h; exact ⟨_, e⟩
    | lk o => exact h.elim
    | ins c fs => exact h.elim
  | ins c fs => exact h.elim
theorem VR.mono (s : Sub R R') (p : ρ <+: ρ') {v : Val} {x : V} (h : VR K R ρ v x) : VR K R' ρ' v x := by
  cases v with
  | v q => exact Rep.mono s h
  | o n =>
    obtain ⟨a, e, rfl⟩ := h
    obtain ⟨t, rfl⟩ := p
    exact ⟨a, by rw [List.getElem?_append_left (List.getElem?_eq_some_iff.mp e).1]; exact e, rfl⟩
theorem VRs.mono (s : Sub R R') (p : ρ <+: ρ') {v : List Val} {x : List V} (h : VRs K R ρ v x) : VRs K R' ρ' v x := by
  induction h with
  | nil => exact .nil
  | cons h _ ih => exact .cons (h.mono s p) ih
theorem SR.mono (s : Sub R R') (p : ρ <+: ρ') {l : SW.Loc} {σ : L2.St} (h : SR K R ρ l σ) : SR K R' ρ' l σ :=
  ⟨h.len, fun i v e => let ⟨x, e', r⟩ := h.get i v e; ⟨x, e', r.mono s p⟩⟩
theorem VRs.length {v : List Val} {x : List V} (h : VRs K R ρ v x) : v.length = x.length := by
  induction h with
  | nil => rfl
  | cons _ _ ih => simp [ih]
theorem SR.set {l : SW.Loc} {σ : L2.St} (h : SR K R ρ l σ) (i : Nat) {v : Val} {x : V} (r : VR K R ρ v x) : SR K R ρ (l.set i (some v)) (σ.set i (some x)) := by
  refine ⟨by simp [h.len], fun j w e => ?_⟩
  by_cases hj : i = j
  · subst hj
    have hi : i < l.length := by
      by_cases hi : i < l.length
      · exact hi
      · rw [List.getElem?_eq_none (by simp; omega)] at e; cases e
    rw [List.getElem?_set_self hi] at e
    cases e
    exact ⟨x, List.getElem?_set_self (by have := h.len; omega), r⟩
  · rw [List.getElem?_set_ne hj] at e
    rw [List.getElem?_set_ne hj]
    exact h.get j w e
theorem SR.wipe {l : SW.Loc} {σ : L2.St} (h : SR K R ρ l σ) : ∀ own : List Nat, SR K R ρ (SW.wipeL l own) (L2.wipe σ own)
  | [] => h
  | i :: is => by
    have ih := SR.wipe h is
    refine ⟨by simp [SW.wipeL, L2.wipe, ih.len], fun j w e => ?_⟩
    unfold SW.wipeL at e
    unfold L2.wipe
    by_cases hj : i = j
    · subst hj
      by_cases hi : i < (SW.wipeL l is).length
      · rw [List.getElem?_set_self hi] at e; cases e
      · rw [List.getElem?_eq_none (by simp; omega)] at e; cases e
    · rw [List.getElem?_set_ne hj] at e
      rw [List.getElem?_set_ne hj]
      exact ih.get j w e
/-! ### the store's changes -/
theorem MR.at (m : MR F K R ρ μ H) {n : Nat} {o : MO} (e : μ[n]? = some o) : ∃ a, ρ[n]? = some a ∧ OR K R H a o := by
  have hn := (List.getElem?_eq_some_iff.mp e).1
  have hn' : n < ρ.length := by rw [m.len]; exact hn
  exact ⟨ρ[n], List.getElem?_eq_getElem hn', m.obj n o _ e (List.getElem?_eq_getElem hn')⟩
theorem MR.notR (m : MR F K R ρ μ H) {n : Nat} {a : Addr} (e : ρ[n]? = some a) : R a = none := m.out a (List.mem_of_getElem? e)
/-- another heap that keeps all that counts -/
theorem MR.heap (m : MR F K R ρ μ H) (h1 : Sub H H') : MR F K R ρ μ H' :=
  ⟨m.fr.trans h1, m.frR, m.sub.trans h1, m.len, m.nd, m.out, fun n o a e e' => by
    have q := m.obj n o a e e'
    obtain ⟨u, hu⟩ := q.some
    exact q.at ((h1 a u hu).trans hu.symm)⟩
theorem Sub.new {p : Addr} {o : HO} (h : H p = none) : Sub H (upd H p o) := fun b u e => by
  rw [upd_ne (ne_of_none e h)]; exact e
/-- a new thing that never changes -/
theorem MR.frozen (m : MR F K R ρ μ H) {p : Addr} {o : HO} (h : H p = none) : MR F K (upd R p o) ρ μ (upd H p o) ∧ Sub R (upd R p o) := by
  have hRp : R p = none := by
    cases e : R p with
    | none => rfl
    | some u => rw [m.sub p u e] at h; cases h
  have s1 : Sub R (upd R p o) := Sub.new hRp
  refine ⟨⟨m.fr.trans (Sub.new h), fun a u e => ⟨by rw [upd_ne (ne_of_none (m.fr a u e) h)]; exact (m.frR a u e).1, (m.frR a u e).2⟩, fun b u e => ?_, m.len, m.nd, fun a ha => ?_, fun n u a e e' => ?_⟩, s1⟩
  · by_cases hb : b = p
    · subst hb; rw [upd_same] at e ⊢; exact e
    · rw [upd_ne hb] at e ⊢; exact m.sub b u e
  · obtain ⟨i, hi⟩ := List.mem_iff_getElem?.mp ha
    have hlt := (List.getElem?_eq_some_iff.mp hi).1
    have hx : i < μ.length := by rw [← m.len]; exact hlt
    obtain ⟨w, hw⟩ := (m.obj i _ a (List.getElem?_eq_getElem hx) hi).some
    rw [upd_ne (ne_of_none hw h)]; exact m.out a ha
  · have q := m.obj n u a e e'
    obtain ⟨w, hw⟩ := q.some
    exact (q.mono s1).at (upd_ne (ne_of_none hw h))
/-- a new thing of the store -/
theorem MR.push (m : MR F K R ρ μ H) {p : Addr} {u : HO} {o : MO} (h : H p = none) (q : OR K R (upd H p u) p o) : MR F K R (ρ ++ [p]) (μ ++ [o]) (upd H p u) := by
  have hRp : R p = none := by
    cases e : R p with
    | none => rfl
    | some u => rw [m.sub p u e] at h; cases h
  have hnp : p ∉ ρ := fun ha => by
    obtain ⟨i, hi⟩ := List.mem_iff_getElem?.mp ha
    have hlt := (List.getElem?_eq_some_iff.mp hi).1
    have hx : i < μ.length := by rw [← m.len]; exact hlt
    obtain ⟨w, hw⟩ := (m.obj i _ p (List.getElem?_eq_getElem hx) hi).some
    rw [h] at hw; cases hw
  refine ⟨m.fr.trans (Sub.new h), fun a u e => ⟨(m.frR a u e).1, fun hm => ?_⟩, m.sub.trans (Sub.new h), by simp [m.len], ?_, fun a ha => ?_, fun n x a e e' => ?_⟩
  · rcases List.mem_append.mp hm with hm | hm
    · exact (m.frR a u e).2 hm
    · simp at hm
      exact absurd hm (ne_of_none (m.fr a u e) h)
  · rw [List.nodup_append]
    exact ⟨m.nd, by simp, fun a ha b hb => by simp at hb; subst hb; exact fun e => hnp (e ▸ ha)⟩
  · rcases List.mem_append.mp ha with ha | ha
    · exact m.out a ha
    · simp at ha; subst ha; exact hRp
  · by_cases hn : n < μ.length
    · rw [List.getElem?_append_left hn] at e
      rw [List.getElem?_append_left (by rw [m.len]; exact hn)] at e'
      have z := m.obj n x a e e'
      obtain ⟨w, hw⟩ := z.some
      exact z.at (upd_ne (ne_of_none hw h))
    · have hx := (List.getElem?_eq_some_iff.mp e).1
      have hnn : n = μ.length := by simp at hx; omega
      subst hnn
      rw [List.getElem?_append_right (Nat.le_refl _)] at e
      rw [List.getElem?_append_right (by rw [m.len]; exact Nat.le_refl _)] at e'
      simp [m.len] at e e'
      subst e e'
      exact q
/-- a thing of the store changes -/
theorem MR.put (m : MR F K R ρ μ H) {n : Nat} {a : Addr} {u : HO} {o : MO} (e : ρ[n]? = some a) (nf : ∀ ob v, H a ≠ some (.frz ob v)) (q : OR K R (upd H a u) a o) : MR F K R ρ (μ.set n o) (upd H a u) := by
  have hR := m.notR e
  have hn : n < μ.length := by rw [← m.len]; exact (List.getElem?_eq_some_iff.mp e).1
  refine ⟨fun b w eb => ?_, m.frR, fun b w eb => ?_, by simp [m.len], m.nd, m.out, fun k x b ek eb => ?_⟩
  · have : b ≠ a := fun z => by
      subst z
      obtain ⟨ob, v, rfl⟩ := (m.frR b w eb).2 (List.mem_of_getElem? e)
      exact nf ob v (m.fr b _ eb)
    rw [upd_ne this]; exact m.fr b w eb
  · have : b ≠ a := fun z => by subst z; rw [hR] at eb; cases eb
    rw [upd_ne this]; exact m.sub b w eb
  · by_cases hk : n = k
    · subst hk
      rw [List.getElem?_set_self hn] at ek
      cases ek
      rw [e] at eb; cases eb
      exact q
    · rw [List.getElem?_set_ne hk] at ek
      have hab : b ≠ a := fun z => by
        subst z
        obtain ⟨h1, h1'⟩ := List.getElem?_eq_some_iff.mp e
        obtain ⟨h2, h2'⟩ := List.getElem?_eq_some_iff.mp eb
        exact hk ((List.getElem_inj m.nd).mp (h1'.trans h2'.symm))
      exact (m.obj k x b ek eb).at (upd_ne hab)
end
end SWS
end
section
set_option maxRecDepth 100000
/-! Results, lifts, operators. -/
namespace SWS
open PySem PySem.Spec PyProof.Rows L2
open SW (PV Val MO Ky Mem Res M E OF It Cn Pat Fl view flat flats ofO bin2)

section
variable {α β γ δ : Type}
/-- what a result asks of what follows -/
def Post (F : Hp) (K : Fg) (rel : Hp → List Addr → α → β → Prop) (Wx : Nat → Hp → Prop) (R : Hp) (ρ : List Addr) (r : Res α) (Q : β → Hp → Prop) : Prop :=
  match r with
  | .ok a μ => ∀ R' ρ' H' y, Sub R R' → ρ <+: ρ' → MR F K R' ρ' μ H' → rel R' ρ' a y → Q y H'
  | .exn c μ => ∀ R' ρ' H', Sub R R' → ρ <+: ρ' → MR F K R' ρ' μ H' → Wx c H'
  | .no => False
variable {K : Fg} {rel : Hp → List Addr → α → β → Prop} {rel2 : Hp → List Addr → γ → δ → Prop} {Wx : Nat → Hp → Prop} {R R1 H : Hp} {ρ ρ1 : List Addr} {μ : Mem} {r : Res α} {Q : β → Hp → Prop}
theorem Post.mono (h : Post F K rel Wx R ρ r Q) (s : Sub R R1) (p : ρ <+: ρ1) : Post F K rel Wx R1 ρ1 r Q := by
  cases r with
  | ok a μ => exact fun R' ρ' H' y s' p' => h R' ρ' H' y (s.trans s') (p.trans p')
  | exn c μ => exact fun R' ρ' H' s' p' => h R' ρ' H' (s.trans s') (p.trans p')
  | no => exact h
theorem Post.bind {f : α → Mem → Res γ} {Q' : δ → Hp → Prop} (h : Post F K rel2 Wx R ρ (r.bind f) Q') :
    Post F K rel Wx R ρ r (fun y H1 => ∃ R1 ρ1 a μ1, Sub R R1 ∧ ρ <+: ρ1 ∧ MR F K R1 ρ1 μ1 H1 ∧ rel R1 ρ1 a y ∧ r = .ok a μ1 ∧ Post F K rel2 Wx R1 ρ1 (f a μ1) Q') := by
  cases r with
  | ok a μ => exact fun R' ρ' H' y s p m q => ⟨R', ρ', a, μ, s, p, m, q, rfl, Post.mono h s p⟩
  | exn c μ => exact h
  | no => exact h
theorem Post.imp {Q' : β → Hp → Prop} (h : Post F K rel Wx R ρ r Q) (i : ∀ y H, Q y H → Q' y H) : Post F K rel Wx R ρ r Q' := by
  cases r with
  | ok a μ => exact fun R' ρ' H' y s p m q => i _ _ (h R' ρ' H' y s p m q)
  | exn c μ => exact h
  | no => exact h
theorem Post.here {a : α} {y : β} (h : Post F K rel Wx R ρ (.ok a μ) Q) (m : MR F K R ρ μ H) (q : rel R ρ a y) : Q y H := h R ρ H y (Sub.refl R) (List.prefix_refl ρ) m q
end

/-! ### views -/
def Vw (K : Fg) (R H : Hp) (p : PV) (x : V) : Prop := match p with
  | .lst ps => ∃ a vs, x = .ref a ∧ Rd H a (.lst vs) ∧ Reps K R ps vs
  | p => Rep K R p x
section
variable {K : Fg} {R R1 H : Hp} {ρ ρ1 : List Addr} {μ : Mem}
theorem Vw.of {p : PV} {x : V} (s : Sub R H) (h : Rep K R p x) : Vw K R H p x := by
  cases p with
  | lst ps => obtain ⟨a, vs, rfl, h1, h2⟩ := h.lst_inv; exact ⟨a, vs, rfl, Rd.mono s h1, h2⟩
  | _ => exact h
theorem Vw.rep {p : PV} {x : V} (s : Sub R H) (h : Vw K R H p x) : Rep K H p x := by
  cases p with
  | lst ps => obtain ⟨a, vs, rfl, h1, h2⟩ := h; exact .lst h1 (h2.mono s)
  | _ => exact Rep.mono s h
theorem seqOf_or {a : Addr} {o : MO} {xs : List PV} (h : OR K R H a o) (e : SW.seqOf o = some xs) : ∃ vs, H a = some (.lst vs) ∧ Reps K R xs vs := by
  cases o with
  | lst ys => simp [SW.seqOf] at e; subst e; exact h
  | lk o =>
    cases o with
    | lst ys => simp [SW.seqOf] at e; subst e; exact h
    | _ => simp [SW.seqOf] at e
  | _ => simp [SW.seqOf] at e
variable {α β : Type} {rel : Hp → List Addr → α → β → Prop} {Wx : Nat → Hp → Prop} {Q : β → Hp → Prop}
theorem view_cases {v : Val} {x : V} (m : MR F K R ρ μ H) (r : VR K R ρ v x) {f : PV → Mem → Res α} (P : Post F K rel Wx R ρ ((view v μ).bind f) Q) : ∃ p, Vw K R H p x ∧ Post F K rel Wx R ρ (f p μ) Q := by
  cases v with
  | v p => exact ⟨p, Vw.of m.sub r, P⟩
  | o n =>
    obtain ⟨a, e, rfl⟩ := r
    unfold view at P
    dsimp only at P
    cases e1 : μ[n]? with
    | none => rw [e1] at P; exact P.elim
    | some o =>
      rw [e1] at P
      dsimp only at P
      cases e2 : SW.seqOf o with
      | none => rw [e2] at P; exact P.elim
      | some xs =>
        rw [e2] at P
        obtain ⟨vs, h1, h2⟩ := seqOf_or (m.obj n o a e1 e) e2
        exact ⟨.lst xs, ⟨a, vs, rfl, .inl h1, h2⟩, P⟩
theorem flat_cases {v : Val} {x : V} (r : VR K R ρ v x) {f : PV → Mem → Res α} (P : Post F K rel Wx R ρ ((flat v μ).bind f) Q) : ∃ p, v = .v p ∧ Rep K R p x ∧ Post F K rel Wx R ρ (f p μ) Q := by
  cases v with
  | v p => exact ⟨p, rfl, r, P⟩
  | o n => exact P.elim
theorem flats_cases : ∀ {vs : List Val} {xs : List V} (r : VRs K R ρ vs xs) {f : List PV → Mem → Res α} (P : Post F K rel Wx R ρ ((flats vs μ).bind f) Q), ∃ ps, Reps K R ps xs ∧ Post F K rel Wx R ρ (f ps μ) Q
  | [], _, r, f, P => by
    cases r
    exact ⟨[], .nil, P⟩
  | v :: vs, _, r, f, P => by
    cases r with
    | cons r1 r2 =>
      have P1 : Post F K rel Wx R ρ ((flat v μ).bind fun p μ1 => ((flats vs μ1).bind fun ps μ2 => f (p :: ps) μ2)) Q := by
        cases v with
        | v p =>
          show Post F K rel Wx R ρ ((flats vs μ).bind fun ps μ2 => f (p :: ps) μ2) Q
          have : flats (.v p :: vs) μ = (flats vs μ).bind fun ps μ2 => .ok (p :: ps) μ2 := rfl
          rw [this] at P
          cases e : flats vs μ with
          | ok a ν => rw [e] at P; exact P
          | exn c ν => rw [e] at P; exact P
          | no => rw [e] at P; exact P
        | o n => exact P
      obtain ⟨p, rfl, rp, P2⟩ := flat_cases r1 P1
      obtain ⟨ps, rps, P3⟩ := flats_cases r2 P2
      exact ⟨p :: ps, .cons rp rps, P3⟩
theorem ofO_cases {γ : Type} {o : Option γ} {f : γ → Mem → Res α} (P : Post F K rel Wx R ρ ((ofO o μ).bind f) Q) : ∃ a, o = some a ∧ Post F K rel Wx R ρ (f a μ) Q := by
  cases o with
  | none => exact P.elim
  | some a => exact ⟨a, rfl, P⟩
/-- a view of a list is a list -/
theorem Vw.lst_inv {ps : List PV} {x : V} (h : Vw K R H (.lst ps) x) : ∃ a vs, x = .ref a ∧ Rd H a (.lst vs) ∧ Reps K R ps vs := h
theorem Vw.tup_inv {ps : List PV} {x : V} (h : Vw K R H (.tup ps) x) : ∃ a vs, x = .ref a ∧ SqT K R a vs ∧ Reps K R ps vs := Rep.tup_inv h
theorem Vw.int_inv {i : Int} {x : V} (h : Vw K R H (.int i) x) : x = .int i := Rep.int_inv h
theorem Vw.bl_inv {i : Bool} {x : V} (h : Vw K R H (.bl i) x) : x = .bl i := Rep.bl_inv h
theorem Vw.str_inv {i : List Nat} {x : V} (h : Vw K R H (.str i) x) : x = .str (toS i) := Rep.str_inv h
theorem Vw.non_inv {x : V} (h : Vw K R H .non x) : x = .non := Rep.non_inv h
end

/-! ### lifts -/
abbrev LF (α : Type) := SW.Loc → M α
def wx (EC : Nat → Value) (W : WX) (σ : L2.St) : Nat → Hp → Prop := fun c H => W (EC c) none σ H
section
variable (K : Fg) (EC : Nat → Value) (W : WX)
def lift {α β : Type} (rel : Hp → List Addr → α → β → Prop) (g : LF α) (σ : L2.St) (H : Hp) (Q : β → Hp → Prop) : Prop :=
  ∃ F R ρ l μ, MR F K R ρ μ H ∧ SR K R ρ l σ ∧ Post F K rel (wx EC W σ) R ρ (g l μ) Q
def liftE (g : LF Val) : TE := lift K EC W (VR K) g
def relB (_ : Hp) (_ : List Addr) (a b : Bool) : Prop := a = b
def liftT (g : LF Bool) : TT := lift K EC W relB g
def liftA (g : LF (List Val)) : TA := lift K EC W (VRs K) g
end
section
variable {X : Cx} {e : Expr}
theorem PE.imp {t t' : TE} (h : PE X e t) (i : ∀ σ H Q, t' σ H Q → t σ H Q) : PE X e t' := ⟨fun pins s σ H Q I q => h.run pins s σ H Q I (i _ _ _ q)⟩
theorem PT.imp {t t' : TT} (h : PT X e t) (i : ∀ σ H Q, t' σ H Q → t σ H Q) : PT X e t' := ⟨fun pins s σ H Q I q => h.run pins s σ H Q I (i _ _ _ q)⟩
theorem PA.imp {es : List Expr} {t t' : TA} (h : PA X es t) (i : ∀ σ H Q, t' σ H Q → t σ H Q) : PA X es t' := ⟨fun p pins s σ H Q I q => h.run p pins s σ H Q I (i _ _ _ q)⟩
end
section
variable {K : Fg} {EC : Nat → Value} {W : WX}
theorem lift_next {α β γ δ : Type} {rel1 : Hp → List Addr → α → β → Prop} {rel2 : Hp → List Addr → γ → δ → Prop} {R : Hp} {ρ : List Addr} {l : SW.Loc} {μ : Mem} {H : Hp} {g : LF α} {f : α → M γ} {σ : L2.St} {Wx : Nat → Hp → Prop} {Q : δ → Hp → Prop} {Q1 : β → Hp → Prop}
    (m : MR F K R ρ μ H) (s : SR K R ρ l σ) (P : Post F K rel2 (wx EC W σ) R ρ ((g l >>= f) μ) Q)
    (i : ∀ R1 ρ1 μ1 H1 a y, Sub R R1 → ρ <+: ρ1 → MR F K R1 ρ1 μ1 H1 → SR K R1 ρ1 l σ → rel1 R1 ρ1 a y → Post F K rel2 (wx EC W σ) R1 ρ1 (f a μ1) Q → Q1 y H1) : lift K EC W rel1 g σ H Q1 := by
  refine ⟨F, R, ρ, l, μ, m, s, Post.imp (Post.bind (rel := rel1) P) ?_⟩
  rintro y H1 ⟨R1, ρ1, a, μ1, s1, p1, m1, r1, _, P1⟩
  exact i R1 ρ1 μ1 H1 a y s1 p1 m1 (s.mono s1 p1) r1 P1
theorem lift_intro {α β : Type} {rel : Hp → List Addr → α → β → Prop} {g : LF α} {σ : L2.St} {H R : Hp} {ρ : List Addr} {l : SW.Loc} {μ : Mem} {Q : β → Hp → Prop} (m : MR F K R ρ μ H) (s : SR K R ρ l σ) (P : Post F K rel (wx EC W σ) R ρ (g l μ) Q) : lift K EC W rel g σ H Q :=
  ⟨F, R, ρ, l, μ, m, s, P⟩
theorem lift_bind {α β γ δ : Type} {rel1 : Hp → List Addr → α → β → Prop} {rel2 : Hp → List Addr → γ → δ → Prop} {g : LF α} {f : SW.Loc → α → M γ} {σ : L2.St} {H : Hp} {Q : δ → Hp → Prop} {Q1 : β → Hp → Prop}
    (h : lift K EC W rel2 (fun l => g l >>= f l) σ H Q)
    (i : ∀ F R ρ l μ H1 a y, MR F K R ρ μ H1 → SR K R ρ l σ → rel1 R ρ a y → Post F K rel2 (wx EC W σ) R ρ (f l a μ) Q → Q1 y H1) : lift K EC W rel1 g σ H Q1 := by
  obtain ⟨F, R, ρ, l, μ, m, s, P⟩ := h
  exact lift_next (Wx := fun _ _ => True) m s P fun R1 ρ1 μ1 H1 a y _ _ m1 s1 r1 P1 => i F R1 ρ1 l μ1 H1 a y m1 s1 r1 P1
end

/-! ### operators by values -/
/-- f does what r asks -/
def OpS (K : Fg) (f : Val → Val → M Val) (r : R2) : Prop := ∀ (F R : Hp) (ρ : List Addr) (μ : Mem) (H : Hp) (v w : Val) (x y : V) (Q : VK) (Wx : Nat → Hp → Prop), MR F K R ρ μ H → VR K R ρ v x → VR K R ρ w y → Post F K (VR K) Wx R ρ (f v w μ) Q → r x y H Q
section
variable {X : Cx} {EC : Nat → Value} {W : WX} {a b c : Expr} {ga gb gc : LF Val} {pos : Pos}
theorem ev_bin {op : Operator} {r : R2} {f : Val → Val → M Val} (ho : OpR X (binaryOp op) r) (hf : OpS X.K f r) (ha : PE X a (liftE X.K EC W ga)) (hb : PE X b (liftE X.K EC W gb)) :
    PE X (.BinOp a op b pos) (liftE X.K EC W fun l => do let x ← ga l; let y ← gb l; f x y) := by
  refine PE.imp (pe_op ho ha hb) fun σ H Q h => ?_
  refine lift_bind h fun F R ρ l μ H1 v x m s r P => ?_
  exact lift_next (Wx := fun _ _ => True) m s P fun R2 ρ2 μ2 H2 w y s2 p2 m2 _ r2 P2 => hf F R2 ρ2 μ2 H2 v w x y Q _ m2 (r.mono s2 p2) r2 P2
theorem ev_cmp {op : CmpOp} {r : R2} {f : Val → Val → M Val} (ho : OpR X (compareOp op) r) (hf : OpS X.K f r) (ha : PE X a (liftE X.K EC W ga)) (hb : PE X b (liftE X.K EC W gb)) (hm : behindInMarks op b = false) :
    PE X (.Compare a [op] [b] pos) (liftE X.K EC W fun l => do let x ← ga l; let y ← gb l; f x y) := by
  refine PE.imp (pe_cmpR ho ha hb hm) fun σ H Q h => ?_
  refine lift_bind h fun F R ρ l μ H1 v x m s r P => ?_
  exact lift_next (Wx := fun _ _ => True) m s P fun R2 ρ2 μ2 H2 w y s2 p2 m2 _ r2 P2 => hf F R2 ρ2 μ2 H2 v w x y Q _ m2 (r.mono s2 p2) r2 P2
end

/-! ### arithmetic -/
def fBin (o : SW.Op2) (x y : Val) : M Val := do
  let p ← view x
  let q ← view y
  let r ← ofO (bin2 o p q)
  pure (Val.v r)
theorem fBin_cases {K : Fg} {o : SW.Op2} {R H : Hp} {ρ : List Addr} {μ : Mem} {v w : Val} {x y : V} {Q : VK} {Wx : Nat → Hp → Prop} (m : MR F K R ρ μ H) (rv : VR K R ρ v x) (rw' : VR K R ρ w y) (P : Post F K (VR K) Wx R ρ (fBin o v w μ) Q) :
    ∃ p q r, Vw K R H p x ∧ Vw K R H q y ∧ bin2 o p q = some r ∧ Post F K (VR K) Wx R ρ (.ok (.v r) μ) Q := by
  obtain ⟨p, hp, P⟩ := view_cases m rv P
  obtain ⟨q, hq, P⟩ := view_cases m rw' P
  obtain ⟨r, hr, P⟩ := ofO_cases P
  exact ⟨p, q, r, hp, hq, hr, P⟩
theorem okN_le {n : Nat} (h : SW.okN n = true) : n ≤ sizeLine := by
  rw [sizeLine_eq]; exact Nat.le_of_ble_eq_true h
/-- list + list -/
def rCatL : R2 := fun x y H Q => ∃ l b xs zs, x = .ref l ∧ y = .ref b ∧ Rd H l (.lst xs) ∧ Rd H b (.lst zs) ∧ xs.length + zs.length ≤ sizeLine ∧ ∀ p, H p = none → Q (.ref p) (upd H p (.lst (xs ++ zs)))
section
variable {X : Cx}
theorem Inv.rdL {pins : List (Addr × Obj)} {σ : L2.St} {H : Hp} {s : Shared} {l : Addr} {xs : List V} (I : Inv X pins σ H s) (h : Rd H l (.lst xs)) : xs.length ≤ sizeLine ∧ ∃ (its : List Value) (n : Nat), Vals xs its ∧ xs.length = its.length ∧ s.heap.get? l = some { cls := .type "list", data := .seq its.toArray n } := by
  obtain ⟨z, its, n, r, e⟩ := h.ok I.hok
  exact ⟨z, its, n, r, r.length, e⟩
theorem op_catL : OpR X (binaryOp .Add) rCatL := by
  intro pins s σ H x y v u Q I rx ry h
  obtain ⟨l, b, xs, zs, rfl, rfl, hH, hB, hz, q⟩ := h
  cases rx
  cases ry
  obtain ⟨z, its, n, r, hl, e⟩ := Inv.rdL I hH
  obtain ⟨z2, its2, n2, r2, hl2, e2⟩ := Inv.rdL I hB
  refine PySem.P.add_list e e2 ?_ (by rw [List.size_toArray, List.size_toArray]; omega)
  have ea : its.toArray ++ its2.toArray = (its ++ its2).toArray := by simp
  rw [ea]
  exact ⟨.ref _, _, I.lnew (t' := s.toks) (r.append r2) (by rw [List.length_append]; omega), rfl, q _ I.fresh⟩
def rAddS : R2 := fun x y H Q => ∃ i j, x = .str i ∧ y = .str j ∧ i.length + j.length ≤ sizeLine ∧ Q (.str (i ++ j)) H
def rAdd4 (K : Fg) : R2 := fun x y H Q => rI0 (fun i j => .int (i + j)) x y H Q ∨ (rAddS x y H Q ∨ (rCatA K x y H Q ∨ rCatL x y H Q))
theorem op_add4 : OpR X (binaryOp .Add) (rAdd4 X.K) := op_add.or (op_add_str.or (op_catA.or op_catL))
end
theorem fresh_tup {K : Fg} {R H : Hp} {ρ : List Addr} {μ : Mem} {xs : List V} {ps : List PV} {Q : VK} {Wx : Nat → Hp → Prop} (m : MR F K R ρ μ H) (r : Reps K R ps xs) (P : Post F K (VR K) Wx R ρ (.ok (.v (.tup ps)) μ) Q) : ∀ p, H p = none → Q (.ref p) (upd H p (.tup xs)) := fun p hp => by
  obtain ⟨m', s'⟩ := m.frozen (o := .tup xs) hp
  exact P (upd R p (.tup xs)) ρ _ (.ref p) s' (List.prefix_refl ρ) m' (Rep.tup (.inl (.inl upd_same)) (r.mono s'))
theorem fresh_lst {K : Fg} {R H : Hp} {ρ : List Addr} {μ : Mem} {xs : List V} {ps : List PV} {Q : VK} {Wx : Nat → Hp → Prop} (m : MR F K R ρ μ H) (r : Reps K R ps xs) (P : Post F K (VR K) Wx R ρ (.ok (.v (.lst ps)) μ) Q) : ∀ p, H p = none → Q (.ref p) (upd H p (.lst xs)) := fun p hp => by
  obtain ⟨m', s'⟩ := m.frozen (o := .lst xs) hp
  exact P (upd R p (.lst xs)) ρ _ (.ref p) s' (List.prefix_refl ρ) m' (Rep.lst (.inl upd_same) (r.mono s'))
/-- a value that stands in the heap already -/
theorem here_v {K : Fg} {R H : Hp} {ρ : List Addr} {μ : Mem} {p : PV} {x : V} {Q : VK} {Wx : Nat → Hp → Prop} (m : MR F K R ρ μ H) (P : Post F K (VR K) Wx R ρ (.ok (.v p) μ) Q) (r : Rep K R p x) : Q x H := P.here m r
theorem opS_add (K : Fg) : OpS K (fBin .add) (rAdd4 K) := by
  intro F R ρ μ H v w x y Q Wx m rv rw' P
  obtain ⟨p, q, r, hp, hq, hr, P⟩ := fBin_cases m rv rw' P
  cases p <;> cases q <;> simp [bin2] at hr
  · subst hr
    rw [hp.int_inv, hq.int_inv]
    exact .inl ⟨_, _, rfl, rfl, here_v m P (.int _)⟩
  · obtain ⟨hz, rfl⟩ := hr
    rw [hp.str_inv, hq.str_inv]
    refine .inr (.inl ⟨_, _, rfl, rfl, ?_, ?_⟩)
    · rw [toS_len, toS_len]; exact okN_le hz
    · have : ∀ s t : List Nat, toS s ++ toS t = toS (s ++ t) := fun s t => congrArg Str.mk (by simp [toS])
      rw [this]
      exact here_v m P (.str _)
  · obtain ⟨hz, rfl⟩ := hr
    obtain ⟨a, xs, rfl, h1, r1⟩ := hp.tup_inv
    obtain ⟨b, ys, rfl, h2, r2⟩ := hq.tup_inv
    refine .inr (.inr (.inl ⟨a, b, xs, ys, rfl, rfl, SqT.mono m.sub h1, SqT.mono m.sub h2, ?_, ?_, ?_, ?_⟩))
    · rw [r1.length, r2.length]; exact okN_le hz
    · rintro rfl
      cases r1
      exact here_v m P (.tup h2 r2)
    · rintro _ rfl
      cases r2
      rw [List.append_nil] at P
      exact here_v m P (.tup h1 r1)
    · intro _ _
      exact fresh_tup m (r1.append r2) P
  · obtain ⟨hz, rfl⟩ := hr
    obtain ⟨a, xs, rfl, h1, r1⟩ := hp.lst_inv
    obtain ⟨b, ys, rfl, h2, r2⟩ := hq.lst_inv
    refine .inr (.inr (.inr ⟨a, b, xs, ys, rfl, rfl, h1, h2, ?_, fresh_lst m (r1.append r2) P⟩))
    rw [r1.length, r2.length]; exact okN_le hz
theorem reps_flat {α : Type} (xs : List α) : ∀ n : Nat, SW.reps xs n = (List.replicate n xs).flatten
  | 0 => rfl
  | n + 1 => by rw [SW.reps, reps_flat xs n, List.replicate_succ, List.flatten_cons]
theorem Reps.rep {K : Fg} {R : Hp} {ps : List PV} {xs : List V} (h : Reps K R ps xs) : ∀ n : Nat, Reps K R (SW.reps ps n) (List.replicate n xs).flatten
  | 0 => .nil
  | n + 1 => by rw [SW.reps, List.replicate_succ, List.flatten_cons]; exact h.append (Reps.rep h n)
theorem opS_sub (K : Fg) : OpS K (fBin .sub) (rI0 fun i j => .int (i - j)) := by
  intro F R ρ μ H v w x y Q Wx m rv rw' P
  obtain ⟨p, q, r, hp, hq, hr, P⟩ := fBin_cases m rv rw' P
  cases p <;> cases q <;> simp [bin2] at hr
  subst hr
  rw [hp.int_inv, hq.int_inv]
  exact ⟨_, _, rfl, rfl, here_v m P (.int _)⟩
theorem opS_fdiv (K : Fg) : OpS K (fBin .fdiv) (rI CDiv fun i j => .int (i / j)) := by
  intro F R ρ μ H v w x y Q Wx m rv rw' P
  obtain ⟨p, q, r, hp, hq, hr, P⟩ := fBin_cases m rv rw' P
  cases p <;> cases q <;> simp [bin2] at hr
  obtain ⟨⟨h1, h2⟩, rfl⟩ := hr
  rw [hp.int_inv, hq.int_inv]
  exact ⟨_, _, rfl, rfl, ⟨h1, h2⟩, here_v m P (.int _)⟩
theorem opS_mod (K : Fg) : OpS K (fBin .mod) (rI (fun _ j => 0 < j) fun i j => .int (i % j)) := by
  intro F R ρ μ H v w x y Q Wx m rv rw' P
  obtain ⟨p, q, r, hp, hq, hr, P⟩ := fBin_cases m rv rw' P
  cases p <;> cases q <;> simp [bin2] at hr
  obtain ⟨h1, rfl⟩ := hr
  rw [hp.int_inv, hq.int_inv]
  exact ⟨_, _, rfl, rfl, h1, here_v m P (.int _)⟩
theorem opS_pow (K : Fg) : OpS K (fBin .pow) (rI CPow fun i j => .int (i ^ j.toNat)) := by
  intro F R ρ μ H v w x y Q Wx m rv rw' P
  obtain ⟨p, q, r, hp, hq, hr, P⟩ := fBin_cases m rv rw' P
  cases p <;> cases q <;> simp [bin2, SW.small64] at hr
  obtain ⟨⟨⟨h1, h2⟩, h3, h4⟩, rfl⟩ := hr
  rw [hp.int_inv, hq.int_inv]
  exact ⟨_, _, rfl, rfl, ⟨h1, by omega, by omega⟩, here_v m P (.int _)⟩
/-! products -/
def rMulS : R2 := fun x y H Q => ∃ (i : Str) (n : Int), x = .str i ∧ y = .int n ∧ MulOk i n ∧ Q (.str (Txt.mul i n)) H
def rRepL : R2 := fun x y H Q => ∃ l k xs, x = .ref l ∧ y = .int k ∧ Rd H l (.lst xs) ∧ -(2 ^ 63) ≤ k ∧ k < 2 ^ 63 ∧ xs.length * k.toNat ≤ sizeLine ∧
  ∀ p, H p = none → Q (.ref p) (upd H p (.lst (List.replicate k.toNat xs).flatten))
section
variable {X : Cx}
theorem op_mulS : OpR X (binaryOp .Mult) rMulS := by
  intro pins s σ H x y v u Q I rx ry h
  obtain ⟨i, n, rfl, rfl, ok, q⟩ := h
  obtain ⟨t, rfl⟩ := rx
  obtain ⟨t', rfl⟩ := ry
  exact PySem.SB.mul ok fun t' k => ⟨.str (Txt.mul i n), H, I.tok _, ⟨_, rfl⟩, q⟩
theorem op_repL : OpR X (binaryOp .Mult) rRepL := by
  intro pins s σ H x y v u Q I rx ry h
  obtain ⟨l, k, xs, rfl, rfl, hH, h1, h2, hz, q⟩ := h
  cases rx
  obtain ⟨t, rfl⟩ := ry
  obtain ⟨z, its, n, r, hl, e⟩ := Inv.rdL I hH
  have hlen : its.toArray.size * k.toNat ≤ sizeLine := by rw [List.size_toArray, ← hl]; exact hz
  have hcap : ¬ its.toArray.size * k.toNat > (2 ^ 63 - 1) / 8 := by
    have : (sizeLine : Nat) ≤ (2 ^ 63 - 1) / 8 := by decide
    omega
  have hfit : ¬ (!Builtin.List.listFitsIndex k) = true := by
    rw [fitsIndex_both h1 h2]
    exact Bool.false_ne_true
  have hlong : ¬ Builtin.List.listTooLong (its.toArray.size * k.toNat) = true := by
    rw [notLongL hlen]
    exact Bool.false_ne_true
  have hnew : List.foldl (fun x1 x2 => x1 ++ x2) #[] (List.replicate (if its.toArray.isEmpty = true then 0 else k.toNat) its.toArray) = (List.replicate k.toNat its).flatten.toArray := by
    have f0 : ∀ m : Nat, List.foldl (fun x1 x2 => x1 ++ x2) #[] (List.replicate m its.toArray) = (List.replicate m its).flatten.toArray := fun m => by
      have := foldl_rep its m []
      rw [List.nil_append] at this
      exact this
    rw [f0]
    cases its with
    | nil => simp
    | cons a r' => rw [if_neg (by simp)]
  refine wpAny_binaryOp_repeat_ref (T := "list") (U := "int") (by decide) ⟨_, e, rfl⟩ (fun s' => typeIs_int s' k t) noFill_list_mul F.fills_int_mul F.slot_int_rmul repeat_list F.slot_int_index.lookup
    (call_meets F.slot_int_rmul (typeIs_int s k t) F.entry_int_rmul (F.args_int_rmul_2 _ _) (int___rmul___int_list k t l its.toArray n)
      ⟨e, rfl, ⟨_, e, rfl⟩, call_meets F.slot_list_mul ⟨_, e, rfl⟩ F.entry_list_mul (F.args_list_mul_2 _ _) (AutoListH.list___mul___list_int_3 l its.toArray n k t hfit hcap hlong) ⟨e, ?_⟩⟩)
  rw [hnew]
  exact ⟨.ref _, _, I.lnew (t' := s.toks) (r.rep k.toNat) (by rw [lm_len_rep_flat, Nat.mul_comm]; exact hz), rfl, q _ I.fresh⟩
/-- (..,) * 1 is the tuple -/
theorem tuple_mul1 (l : Addr) (items : Array Value) (n : Nat) (dd : Option Addr) (sl : Array (Option Value)) (u : Tok) :
    Meets (Builtin.«tuple.__mul__» ⟨[.ref l, .int 1 u], []⟩) (fun _ R s => s.heap.get? l = some { cls := .type "tuple", dict := dd, data := .seq items n, slots := sl } ∧ R (.ok (.ret (Value.ref l))) s) :=
  .of_wp fun prog w A R s h => by
    obtain ⟨hp, g, d, tk, os⟩ := s
    obtain ⟨hl, h⟩ := h
    have f1 := AutoSeq1.idx_int
    wp_walk using wpAny_loadPart' hl
    exact ⟨_, rfl, h⟩
def rRep1 (K : Fg) : R2 := fun x y H Q => ∃ l xs, x = .ref l ∧ y = .int 1 ∧ SqT K H l xs ∧ Q (.ref l) H
theorem op_rep1 : OpR X (binaryOp .Mult) (rRep1 X.K) := by
  intro pins s σ H x y v u Q I rx ry h
  obtain ⟨l, xs, rfl, rfl, hT, q⟩ := h
  cases rx
  obtain ⟨t, rfl⟩ := ry
  obtain ⟨its, r, ⟨⟨cls, dd, data, sl⟩, ho, hc, n, hd⟩, hs⟩ := I.tuple hT
  simp only at hc hd
  subst hc hd
  exact wpAny_binaryOp_repeat_ref (T := "tuple") (U := "int") (by decide) ⟨_, ho, rfl⟩ (fun s' => typeIs_int s' 1 t) noFill_tuple_mul F.fills_int_mul F.slot_int_rmul repeat_tuple F.slot_int_index.lookup
    (call_meets F.slot_int_rmul (typeIs_int s 1 t) F.entry_int_rmul (F.args_int_rmul_2 _ _) (int_rmul_tuple 1 t l its.toArray n dd sl)
      ⟨ho, rfl, ⟨_, ho, rfl⟩, call_meets F.slot_tuple_mul ⟨_, ho, rfl⟩ F.entry_tuple_mul (F.args_tuple_mul_2 _ _) (tuple_mul1 l its.toArray n dd sl t) ⟨ho, ⟨.ref l, H, I, rfl, q⟩⟩⟩)
def rMul4 (K : Fg) : R2 := fun x y H Q => rI CMul (fun i j => .int (i * j)) x y H Q ∨ (rMulS x y H Q ∨ (rRepT K x y H Q ∨ (rRepL x y H Q ∨ rRep1 K x y H Q)))
theorem op_mul4 : OpR X (binaryOp .Mult) (rMul4 X.K) := op_mul.or (op_mulS.or (op_repT.or (op_repL.or op_rep1)))
end
theorem fold_cps (s : List Nat) : ∀ (n : Nat) (acc : List Nat), ((List.replicate n s.toArray).foldl (· ++ ·) acc.toArray) = (acc ++ SW.reps s n).toArray
  | 0, acc => by simp [SW.reps]
  | n + 1, acc => by
    rw [List.replicate_succ, List.foldl_cons]
    have : acc.toArray ++ s.toArray = (acc ++ s).toArray := by simp
    rw [this, fold_cps s n (acc ++ s), SW.reps, List.append_assoc]
theorem reps_nil (n : Nat) : SW.reps ([] : List Nat) n = [] := by
  induction n with
  | zero => rfl
  | succ n ih => rw [SW.reps, ih]; rfl
theorem mul_toS {s : List Nat} {j : Int} (h : 1 ≤ j) : Txt.mul (toS s) j = toS (SW.reps s j.toNat) := by
  unfold Txt.mul
  rw [if_neg (by omega)]
  by_cases h1 : (j == 1 || (toS s).length == 0) = true
  · rw [if_pos h1]
    rw [toS_len] at h1
    simp only [Bool.or_eq_true, beq_iff_eq] at h1
    rcases h1 with rfl | h0
    · show toS s = toS (SW.reps s 1)
      simp [SW.reps]
    · have : s = [] := List.eq_nil_of_length_eq_zero h0
      subst this
      rw [reps_nil]
  · rw [if_neg h1]
    have := fold_cps s j.toNat []
    rw [List.nil_append] at this
    exact congrArg Str.mk this
theorem opS_mul (K : Fg) : OpS K (fBin .mul) (rMul4 K) := by
  intro F R ρ μ H v w x y Q Wx m rv rw' P
  obtain ⟨p, q, r, hp, hq, hr, P⟩ := fBin_cases m rv rw' P
  cases p <;> cases q <;> simp only [bin2, reduceCtorEq, Option.ite_none_right_eq_some, Option.some.injEq, Bool.and_eq_true, Bool.or_eq_true, decide_eq_true_eq, SW.small64, Bool.not_eq_true'] at hr
  · obtain ⟨hc, rfl⟩ := hr
    rw [hp.int_inv, hq.int_inv]
    refine .inl ⟨_, _, rfl, rfl, ?_, here_v m P (.int _)⟩
    unfold CMul
    omega
  · rename_i s j
    obtain ⟨⟨⟨h1, h2⟩, h3⟩, rfl⟩ := hr
    rw [hp.str_inv, hq.int_inv]
    refine .inr (.inl ⟨_, _, rfl, rfl, ⟨?_, ?_, ?_⟩, ?_⟩)
    · rw [decide_eq_false (by omega), decide_eq_false (by omega)]; rfl
    · intro _ _ hgt
      rw [toS_len] at hgt
      have h4 := Nat.le_of_ble_eq_true h3
      have h5 : ((s.length : Int)) * j ≤ 16777216 := by
        have : ((s.length * j.toNat : Nat) : Int) ≤ ((16777216 : Nat) : Int) := Int.ofNat_le.mpr h4
        rw [Int.natCast_mul, Int.toNat_of_nonneg (show 0 ≤ j by omega)] at this
        omega
      have h6 : (2 ^ 63 - 1) / j * j ≤ 2 ^ 63 - 1 := Int.ediv_mul_le _ (by omega)
      have h7 : ((2 ^ 63 - 1) / j + 1) * j > 2 ^ 63 - 1 := Int.lt_ediv_add_one_mul_self _ (by omega)
      have h8 : ((2 ^ 63 - 1) / j + 1) * j ≤ (s.length : Int) * j := Int.mul_le_mul_of_nonneg_right (by omega) (by omega)
      omega
    · intro _ _
      rw [toS_len]
      have h4 := Nat.le_of_ble_eq_true h3
      show Builtin.Str.tooLong (s.length * j.toNat) = false
      unfold Builtin.Str.tooLong
      rw [sizeLine_eq]
      exact decide_eq_false (by omega)
    · rw [mul_toS h1]
      exact here_v m P (.str _)
  · rename_i xs j
    obtain ⟨⟨⟨h1, h2⟩, h3, h4⟩, rfl⟩ := hr
    obtain ⟨a, vs, rfl, ht, rs⟩ := hp.tup_inv
    rw [hq.int_inv]
    have hl := rs.length
    have h4 := Nat.le_of_ble_eq_true h4
    by_cases j1 : j = 1
    · subst j1
      have e : SW.reps xs (Int.toNat 1) = xs := by show xs ++ [] = xs; rw [List.append_nil]
      rw [e] at P
      exact .inr (.inr (.inr (.inr ⟨a, vs, rfl, rfl, SqT.mono m.sub ht, here_v m P hp⟩)))
    refine .inr (.inr (.inl ⟨a, j, vs, rfl, rfl, SqT.mono m.sub ht, ?_, by omega, h2, by omega, fresh_tup m (rs.rep _) P⟩))
    rintro rfl
    have : xs = [] := List.eq_nil_of_length_eq_zero (by simpa using hl.symm)
    subst this
    cases h3
  · rename_i xs j
    obtain ⟨⟨⟨h1, h2⟩, h3⟩, rfl⟩ := hr
    obtain ⟨a, vs, rfl, ht, rs⟩ := hp.lst_inv
    rw [hq.int_inv]
    refine .inr (.inr (.inr (.inl ⟨a, j, vs, rfl, rfl, ht, by omega, by omega, ?_, fresh_lst m (rs.rep _) P⟩)))
    rw [rs.length]; exact okN_le h3
end SWS
end
section
set_option maxRecDepth 100000
/-! Comparisons, dicts read. -/
namespace SWS
open PySem PySem.Spec PyProof.Rows L2
open SW (PV Val MO Ky Mem Res M E OF It Cn Pat Fl view flat flats ofO bin2)
section
variable {X : Cx} {pins : List (Addr × Obj)} {σ : L2.St} {s : Shared} {K : Fg} {R H : Hp} {ρ : List Addr} {μ : Mem}
/-- a value of the heap reads as data -/
theorem Rep.reads {p : PV} {x : V} {u : Value} (I : Inv X pins σ H s) (h : Rep X.K H p x) (r : RelV x u) : ∃ as, Reads s.heap u (toD p) as := Dp.reads I _ _ _ h.dp r
theorem Reps.reads {p : List PV} {x : List V} {u : List Value} (I : Inv X pins σ H s) (h : Reps X.K H p x) (r : Vals x u) : ∃ as, ReadsAll s.heap u (toDs p) as := Dp.readsAll I _ _ _ h.dp r
end

/-! ### == and != -/
def rEqP (K : Fg) (neg : Bool) : R2 := fun x y H Q => ∃ p q, Rep K H p x ∧ Rep K H q y ∧ (SW.dle 40 p = true ∨ SW.dle 40 q = true) ∧ Q (.bl (if neg then !SW.eqv p q else SW.eqv p q)) H
section
variable {X : Cx}
theorem min_depth {p q : PV} (h : SW.dle 40 p = true ∨ SW.dle 40 q = true) : min (toD p).depth (toD q).depth ≤ 40 := by
  rcases h with h | h
  · have := depth_le p 40 h; omega
  · have := depth_le q 40 h; omega
theorem op_eqP (hu : X.A.units + 100 < cLine) : OpR X (compareOp .Eq) (rEqP X.K false) := by
  intro pins s σ H x y v u Q I rx ry h
  obtain ⟨p, q, hp, hq, hd, hQ⟩ := h
  obtain ⟨as, r1⟩ := Rep.reads I hp rx
  obtain ⟨bs, r2⟩ := Rep.reads I hq ry
  have := min_depth hd
  exact SeqAt.eq_plain r1 r2 (plain_toD p) (plain_toD q) (by omega) (fin_bl I hQ (by rw [eqv_toD]; rfl))
theorem op_neP (hu : X.A.units + 100 < cLine) : OpR X (compareOp .NotEq) (rEqP X.K true) := by
  intro pins s σ H x y v u Q I rx ry h
  obtain ⟨p, q, hp, hq, hd, hQ⟩ := h
  obtain ⟨as, r1⟩ := Rep.reads I hp rx
  obtain ⟨bs, r2⟩ := Rep.reads I hq ry
  have := min_depth hd
  exact SeqAt.ne_plain r1 r2 (plain_toD p) (plain_toD q) (by omega) (fin_bl I hQ (by rw [eqv_toD]; rfl))
/-! ### in, not in -/
theorem Rep.lst_reads {ps : List PV} {x : V} {u : Value} {pins : List (Addr × Obj)} {σ : L2.St} {H : Hp} {s : Shared} (I : Inv X pins σ H s) (h : Rep X.K H (.lst ps) x) (r : RelV x u) : ∃ as, Reads s.heap u (.list (toDs ps)) as := by
  have := Rep.reads I h r
  rw [toD] at this
  exact this
theorem Rep.tup_reads {ps : List PV} {x : V} {u : Value} {pins : List (Addr × Obj)} {σ : L2.St} {H : Hp} {s : Shared} (I : Inv X pins σ H s) (h : Rep X.K H (.tup ps) x) (r : RelV x u) : ∃ as, Reads s.heap u (.tuple (toDs ps)) as := by
  have := Rep.reads I h r
  rw [toD] at this
  exact this
def rInP (K : Fg) (neg : Bool) : R2 := fun x y H Q => ∃ p qs, Rep K H p x ∧ (Rep K H (.lst qs) y ∨ Rep K H (.tup qs) y) ∧ SW.dle 40 p = true ∧ Q (.bl (if neg then !SW.anyEq p qs else SW.anyEq p qs)) H
theorem op_inP (hu : X.A.units + 100 < cLine) : OpR X (compareOp .In) (rInP X.K false) := by
  intro pins s σ H x y v u Q I rx ry h
  obtain ⟨p, qs, hp, hq, hd, hQ⟩ := h
  obtain ⟨as, r1⟩ := Rep.reads I hp rx
  have hd' := depth_le p 40 hd
  rcases hq with hq | hq
  · obtain ⟨bs, r2⟩ := Rep.lst_reads I hq ry
    exact SeqAt.in_list_data r2 r1 (plain_toDs qs) (plain_toD p) (by omega) (fin_bl I hQ (by rw [anyEq_toD]; rfl))
  · obtain ⟨bs, r2⟩ := Rep.tup_reads I hq ry
    exact SeqAt.in_tuple_data r2 r1 (plain_toDs qs) (plain_toD p) (by omega) (fin_bl I hQ (by rw [anyEq_toD]; rfl))
theorem op_notInP (hu : X.A.units + 100 < cLine) : OpR X (compareOp .NotIn) (rInP X.K true) := by
  intro pins s σ H x y v u Q I rx ry h
  obtain ⟨p, qs, hp, hq, hd, hQ⟩ := h
  obtain ⟨as, r1⟩ := Rep.reads I hp rx
  have hd' := depth_le p 40 hd
  rcases hq with hq | hq
  · obtain ⟨bs, r2⟩ := Rep.lst_reads I hq ry
    exact SeqAt.notIn_list_data r2 r1 (plain_toDs qs) (plain_toD p) (by omega) (fin_bl I hQ (by rw [anyEq_toD]; rfl))
  · obtain ⟨bs, r2⟩ := Rep.tup_reads I hq ry
    exact SeqAt.notIn_tuple_data r2 r1 (plain_toDs qs) (plain_toD p) (by omega) (fin_bl I hQ (by rw [anyEq_toD]; rfl))
def rInD (neg : Bool) : R2 := fun y x H Q => ∃ a o, x = .ref a ∧ DGet H a y o ∧ Q (.bl (if neg then !o.isSome else o.isSome)) H
theorem op_inDict (hu : X.A.units + 100 < cLine) : OpR X (compareOp .In) (rInD false) := by
  intro pins s σ H x y v u Q I rx ry h
  obtain ⟨a, o, rfl, g, hQ⟩ := h
  cases ry
  exact d_in (by omega) I g rx fun s' I' => fin_bl I' hQ rfl
theorem op_notInDict (hu : X.A.units + 100 < cLine) : OpR X (compareOp .NotIn) (rInD true) := by
  intro pins s σ H x y v u Q I rx ry h
  obtain ⟨a, o, rfl, g, hQ⟩ := h
  cases ry
  exact d_notIn (by omega) I g rx fun s' I' => fin_bl I' hQ rfl
end

/-! ### tables -/
section
variable {K : Fg} {R H : Hp} {ρ : List Addr} {μ : Mem} {κ κ' : Type} [DecidableEq κ] [DecidableEq κ'] {f : κ → κ'}
theorem KR.get (hf : ∀ a b, f a = f b → a = b) (k : κ) : ∀ {kvs : List (κ × PV)} {ks : List (κ' × V)}, KR K R f kvs ks → (SW.dget kvs k = none ∧ valV ks (f k) = none) ∨ ∃ p x, SW.dget kvs k = some p ∧ valV ks (f k) = some x ∧ Rep K R p x
  | [], _, h => by cases h; exact .inl ⟨rfl, rfl⟩
  | (j, p) :: kvs, _, h => by
    cases h with
    | @cons a b as bs r t =>
      obtain ⟨r1, r2⟩ := r
      have ih := KR.get hf k (kvs := kvs) t
      by_cases e : j = k
      · subst e
        exact .inr ⟨p, b.2, by simp [SW.dget], valV_pos r1.symm, r2⟩
      · have e' : ¬ b.1 = f k := fun z => e (hf _ _ (r1.trans z))
        rw [valV_neg e']
        simp only [SW.dget, if_neg e]
        exact ih
theorem KR.any (hf : ∀ a b, f a = f b → a = b) (k : κ) : ∀ {kvs : List (κ × PV)} {ks : List (κ' × V)}, KR K R f kvs ks → (kvs.any fun kv => decide (kv.1 = k)) = ks.any fun kv => decide (kv.1 = f k)
  | [], _, h => by cases h; rfl
  | (j, p) :: kvs, _, h => by
    cases h with
    | @cons a b as bs r t =>
      obtain ⟨r1, r2⟩ := r
      rw [List.any_cons, List.any_cons, KR.any hf k (kvs := kvs) t]
      congr 1
      show decide (j = k) = decide (b.1 = f k)
      rw [← r1]
      by_cases e : j = k
      · subst e; simp
      · rw [decide_eq_false e, decide_eq_false fun z => e (hf _ _ z)]
theorem KR.repl (hf : ∀ a b, f a = f b → a = b) (k : κ) {p : PV} {x : V} (rp : Rep K R p x) : ∀ {kvs : List (κ × PV)} {ks : List (κ' × V)}, KR K R f kvs ks → KR K R f (kvs.map fun kv => if kv.1 = k then (kv.1, p) else kv) (ks.map fun kv => if kv.1 = f k then (kv.1, x) else kv)
  | [], _, h => by cases h; exact .nil
  | (j, q) :: kvs, _, h => by
    cases h with
    | @cons a b as bs r t =>
      obtain ⟨r1, r2⟩ := r
      rw [List.map_cons, List.map_cons]
      refine .cons ?_ (KR.repl hf k rp (kvs := kvs) t)
      have r1 : f j = b.1 := r1
      by_cases e : j = k
      · subst e
        rw [if_pos rfl, if_pos r1.symm]
        exact ⟨r1, rp⟩
      · have e' : ¬ b.1 = f k := fun z => e (hf _ _ (r1.trans z))
        rw [if_neg e, if_neg e']
        exact ⟨r1, r2⟩
theorem KR.snoc (k : κ) {p : PV} {x : V} (rp : Rep K R p x) : ∀ {kvs : List (κ × PV)} {ks : List (κ' × V)}, KR K R f kvs ks → KR K R f (kvs ++ [(k, p)]) (ks ++ [(f k, x)])
  | [], _, h => by cases h; exact .cons ⟨rfl, rp⟩ .nil
  | (j, q) :: kvs, _, h => by
    cases h with
    | cons r t => exact .cons r (KR.snoc k rp (kvs := kvs) t)
theorem KR.put (hf : ∀ a b, f a = f b → a = b) (k : κ) {p : PV} {x : V} (rp : Rep K R p x) {kvs : List (κ × PV)} {ks : List (κ' × V)} (h : KR K R f kvs ks) : KR K R f (SW.dput kvs k p) (putK ks (f k) x) := by
  unfold SW.dput putK
  rw [KR.any hf k h]
  by_cases e : (ks.any fun kv => decide (kv.1 = f k)) = true
  · rw [if_pos e, if_pos e]; exact h.repl hf k rp
  · rw [if_neg e, if_neg e]; exact h.snoc k rp
theorem KR.del (hf : ∀ a b, f a = f b → a = b) (k : κ) : ∀ {kvs : List (κ × PV)} {ks : List (κ' × V)}, KR K R f kvs ks → KR K R f (SW.ddel kvs k) (dropK ks (f k))
  | [], _, h => by cases h; exact .nil
  | (j, q) :: kvs, _, h => by
    cases h with
    | @cons a b as bs r t =>
      obtain ⟨r1, r2⟩ := r
      have r1 : f j = b.1 := r1
      have ih := KR.del hf k (kvs := kvs) t
      unfold SW.ddel dropK at ih ⊢
      by_cases e : j = k
      · subst e
        rw [List.filter_cons_of_neg (by simp), List.filter_cons_of_neg (by simp [r1])]
        exact ih
      · have e' : ¬ b.1 = f k := fun z => e (hf _ _ (r1.trans z))
        rw [List.filter_cons_of_pos (by simp [e]), List.filter_cons_of_pos (by simp [e'])]
        exact .cons ⟨r1, r2⟩ ih
theorem KR.len {kvs : List (κ × PV)} {ks : List (κ' × V)} (h : KR K R f kvs ks) : ks.length = kvs.length := (Paired.length h).symm
end
section
variable {K : Fg} {R H : Hp} {ρ : List Addr} {μ : Mem}
theorem dicOf_or {a : Addr} {o : MO} {kvs : List (Ky × PV)} (h : OR K R H a o) (e : SW.dicOf o = some kvs) : ∃ ks, Rd H a (.dK ks) ∧ KR K R skey kvs ks := by
  cases o with
  | dk ys => simp [SW.dicOf] at e; subst e; obtain ⟨ks, h1, h2⟩ := h; exact ⟨ks, .inl h1, h2⟩
  | lk o =>
    cases o with
    | dk ys => simp [SW.dicOf] at e; subst e; obtain ⟨ob, ks, h1, h2⟩ := h; exact ⟨ks, .inr ⟨ob, h1⟩, h2⟩
    | _ => simp [SW.dicOf] at e
  | _ => simp [SW.dicOf] at e
theorem dicAt_some {v : Val} {x : V} {kvs : List (Ky × PV)} (m : MR F K R ρ μ H) (r : VR K R ρ v x) (e : SW.dicAt v μ = some kvs) : ∃ a ks, x = .ref a ∧ Rd H a (.dK ks) ∧ KR K R skey kvs ks := by
  cases v with
  | v p => simp [SW.dicAt] at e
  | o n =>
    obtain ⟨a, e1, rfl⟩ := r
    simp only [SW.dicAt] at e
    cases e2 : μ[n]? with
    | none => rw [e2] at e; cases e
    | some o =>
      rw [e2] at e
      obtain ⟨ks, h1, h2⟩ := dicOf_or (m.obj n o a e2 e1) e
      exact ⟨a, ks, rfl, h1, h2⟩
theorem keyOf_rep {p : PV} {k : Ky} {x : V} (e : SW.keyOf p = some k) (h : Rep K R p x) : x = kV (skey k) := by
  cases p <;> simp [SW.keyOf] at e
  · subst e; exact h.int_inv
  · subst e; exact h.str_inv
theorem DGet.rd {a : Addr} {ks : List (Key × V)} (h : Rd H a (.dK ks)) (k : Key) : DGet H a (kV k) (valV ks k) := .inl ⟨ks, k, h, rfl, rfl⟩
theorem KR.isSome (k : Ky) {kvs : List (Ky × PV)} {ks : List (Key × V)} (h : KR K R skey kvs ks) : (valV ks (skey k)).isSome = (SW.dget kvs k).isSome := by
  rcases h.get (fun _ _ => skey_inj) k with ⟨e1, e2⟩ | ⟨p, x, e1, e2, _⟩
  · rw [e1, e2]; rfl
  · rw [e1, e2]; rfl
end

/-! ### comparisons by values -/
section
variable {K : Fg}
theorem fCmp_plain {o : SW.CmpO} {R H : Hp} {ρ : List Addr} {μ : Mem} {v w : Val} {x y : V} {Q : VK} {Wx : Nat → Hp → Prop} (m : MR F K R ρ μ H) (rv : VR K R ρ v x) (rw' : VR K R ρ w y)
    (P : Post F K (VR K) Wx R ρ (((do let p ← view v; let q ← view w; let b ← ofO (SW.cmp2v o p q); pure (Val.v (.bl b))) : M Val) μ) Q) :
    ∃ p q b, Vw K R H p x ∧ Vw K R H q y ∧ SW.cmp2v o p q = some b ∧ Q (.bl b) H := by
  obtain ⟨p, hp, P⟩ := view_cases m rv P
  obtain ⟨q, hq, P⟩ := view_cases m rw' P
  obtain ⟨r, hr, P⟩ := ofO_cases P
  exact ⟨p, q, r, hp, hq, hr, here_v m P (.bl _)⟩
theorem cmpV_no {o : SW.CmpO} {v w : Val} {μ : Mem} (h1 : o ≠ .isin) (h2 : o ≠ .notin) : SW.cmpV o v w μ = match SW.dicAt w μ with
    | some _ => .no
    | none => ((do let p ← view v; let q ← view w; let b ← ofO (SW.cmp2v o p q); pure (Val.v (.bl b))) : M Val) μ := by
  unfold SW.cmpV
  cases e : SW.dicAt w μ with
  | none => rfl
  | some kvs => cases o <;> first | rfl | exact absurd rfl h1 | exact absurd rfl h2
theorem opS_plain {o : SW.CmpO} {r : R2} (h1 : o ≠ .isin) (h2 : o ≠ .notin)
    (h : ∀ (R H : Hp) (p q : PV) (x y : V) (b : Bool) (Q : VK), Sub R H → Vw K R H p x → Vw K R H q y → SW.cmp2v o p q = some b → Q (.bl b) H → r x y H Q) : OpS K (SW.cmpV o) r := by
  intro F R ρ μ H v w x y Q Wx m rv rw' P
  rw [cmpV_no h1 h2] at P
  cases e : SW.dicAt w μ with
  | some kvs => rw [e] at P; exact P.elim
  | none =>
    rw [e] at P
    obtain ⟨p, q, b, hp, hq, hb, hQ⟩ := fCmp_plain m rv rw' P
    exact h R H p q x y b Q m.sub hp hq hb hQ
theorem opS_eq : OpS K (SW.cmpV .eq) (rEqP K false) := opS_plain (by decide) (by decide) fun R H p q x y b Q s hp hq e hQ => by
  simp only [SW.cmp2v, Option.ite_none_right_eq_some, Bool.or_eq_true, Option.some.injEq] at e
  obtain ⟨e1, rfl⟩ := e
  exact ⟨p, q, hp.rep s, hq.rep s, e1, hQ⟩
theorem opS_ne : OpS K (SW.cmpV .ne) (rEqP K true) := opS_plain (by decide) (by decide) fun R H p q x y b Q s hp hq e hQ => by
  simp only [SW.cmp2v, Option.ite_none_right_eq_some, Bool.or_eq_true, Option.some.injEq] at e
  obtain ⟨e1, rfl⟩ := e
  exact ⟨p, q, hp.rep s, hq.rep s, e1, hQ⟩
theorem cmpI_inv {o : SW.CmpO} {p q : PV} {b : Bool} (ho : o = .lt ∨ o = .le ∨ o = .gt ∨ o = .ge) (e : SW.cmp2v o p q = some b) : ∃ i j, p = .int i ∧ q = .int j ∧ SW.cmpI o i j = some b := by
  rcases ho with rfl | rfl | rfl | rfl <;> (cases p <;> cases q <;> simp [SW.cmp2v] at e <;> exact ⟨_, _, rfl, rfl, e⟩)
theorem opS_lt : OpS K (SW.cmpV .lt) (rI0 fun i j => .bl (decide (i < j))) := opS_plain (by decide) (by decide) fun R H p q x y b Q s hp hq e hQ => by
  obtain ⟨i, j, rfl, rfl, e⟩ := cmpI_inv (by simp) e
  cases e
  exact ⟨i, j, hp.int_inv, hq.int_inv, hQ⟩
theorem opS_le : OpS K (SW.cmpV .le) (rI0 fun i j => .bl (decide (i ≤ j))) := opS_plain (by decide) (by decide) fun R H p q x y b Q s hp hq e hQ => by
  obtain ⟨i, j, rfl, rfl, e⟩ := cmpI_inv (by simp) e
  cases e
  exact ⟨i, j, hp.int_inv, hq.int_inv, hQ⟩
theorem opS_gt : OpS K (SW.cmpV .gt) (rI0 fun i j => .bl (decide (j < i))) := opS_plain (by decide) (by decide) fun R H p q x y b Q s hp hq e hQ => by
  obtain ⟨i, j, rfl, rfl, e⟩ := cmpI_inv (by simp) e
  cases e
  exact ⟨i, j, hp.int_inv, hq.int_inv, hQ⟩
theorem opS_ge : OpS K (SW.cmpV .ge) (rI0 fun i j => .bl (decide (j ≤ i))) := opS_plain (by decide) (by decide) fun R H p q x y b Q s hp hq e hQ => by
  obtain ⟨i, j, rfl, rfl, e⟩ := cmpI_inv (by simp) e
  cases e
  exact ⟨i, j, hp.int_inv, hq.int_inv, hQ⟩
def rIs (neg : Bool) : R2 := fun x y H Q => (y = .non ∧ Q (.bl (if neg then !decide (x = .non) else decide (x = .non))) H) ∨ ∃ a b, x = .bl a ∧ y = .bl b ∧ Q (.bl (if neg then !decide (a = b) else decide (a = b))) H
theorem isOne_inv {p q : PV} {b : Bool} (e : SW.isOne p q = some b) : (q = .non ∧ b = SW.isNon p) ∨ ∃ c d, p = .bl c ∧ q = .bl d ∧ b = decide (c = d) := by
  unfold SW.isOne at e
  split at e
  · cases e; exact .inl ⟨rfl, rfl⟩
  · cases e; exact .inr ⟨_, _, rfl, rfl, rfl⟩
  · cases e
theorem Vw.isNon {R H : Hp} {p : PV} {x : V} (h : Vw K R H p x) : decide (x = V.non) = SW.isNon p := by
  cases p with
  | non => rw [h.non_inv]; rfl
  | bl b => rw [h.bl_inv]; rfl
  | int i => rw [h.int_inv]; rfl
  | str i => rw [h.str_inv]; rfl
  | tup ps => obtain ⟨a, vs, rfl, _⟩ := h.tup_inv; rfl
  | lst ps => obtain ⟨a, vs, rfl, _⟩ := h.lst_inv; rfl
theorem opS_is : OpS K (SW.cmpV .is) (rIs false) := opS_plain (by decide) (by decide) fun R H p q x y b Q s hp hq e hQ => by
  rcases isOne_inv (show SW.isOne p q = some b from e) with ⟨rfl, rfl⟩ | ⟨c, d, rfl, rfl, rfl⟩
  · refine .inl ⟨hq.non_inv, ?_⟩
    rw [if_neg Bool.false_ne_true, hp.isNon]
    exact hQ
  · exact .inr ⟨c, d, hp.bl_inv, hq.bl_inv, hQ⟩
theorem opS_isnot : OpS K (SW.cmpV .isnot) (rIs true) := opS_plain (by decide) (by decide) fun R H p q x y b Q s hp hq e hQ => by
  have e : (SW.isOne p q).map not = some b := e
  cases e1 : SW.isOne p q with
  | none => rw [e1] at e; cases e
  | some c =>
    rw [e1] at e
    cases e
    rcases isOne_inv e1 with ⟨rfl, rfl⟩ | ⟨c, d, rfl, rfl, rfl⟩
    · refine .inl ⟨hq.non_inv, ?_⟩
      rw [if_pos rfl, hp.isNon]
      exact hQ
    · exact .inr ⟨c, d, hp.bl_inv, hq.bl_inv, hQ⟩
def rSign (neg : Bool) : R2 := fun x y H Q => ∃ c z, x = .str ⟨#[c]⟩ ∧ y = .str z ∧ Q (.bl (if neg then !decide (c ∈ z.cps.toList) else decide (c ∈ z.cps.toList))) H
def rIn3 (K : Fg) (neg : Bool) : R2 := fun x y H Q => rInP K neg x y H Q ∨ (rSign neg x y H Q ∨ rInD neg x y H Q)
theorem contains_mem (t : List Nat) (c : Nat) : t.contains c = decide (c ∈ (toS t).cps.toList) := by
  have : (toS t).cps.toList = t := by simp [toS]
  rw [this]
  exact List.contains_eq_mem c t
theorem opS_in : OpS K (SW.cmpV .isin) (rIn3 K false) := by
  intro F R ρ μ H v w x y Q Wx m rv rw' P
  unfold SW.cmpV at P
  cases e : SW.dicAt w μ with
  | some kvs =>
    rw [e] at P
    obtain ⟨a, ks, rfl, h1, h2⟩ := dicAt_some m rw' e
    cases v with
    | o n => exact P.elim
    | v p =>
      dsimp only at P
      cases e2 : SW.keyOf p with
      | none => rw [e2] at P; exact P.elim
      | some k =>
        rw [e2] at P
        have hx := keyOf_rep e2 (show Rep K R p x from rv)
        subst hx
        refine .inr (.inr ⟨a, _, rfl, DGet.rd h1 (skey k), ?_⟩)
        rw [if_neg Bool.false_ne_true, KR.isSome k h2]
        exact here_v m P (.bl _)
  | none =>
    rw [e] at P
    obtain ⟨p, q, b, hp, hq, hb, hQ⟩ := fCmp_plain m rv rw' P
    cases q with
    | lst ys =>
      simp only [SW.cmp2v, Option.ite_none_right_eq_some, Option.some.injEq] at hb
      obtain ⟨e1, rfl⟩ := hb
      exact .inl ⟨p, ys, hp.rep m.sub, .inl (hq.rep m.sub), e1, hQ⟩
    | tup ys =>
      simp only [SW.cmp2v, Option.ite_none_right_eq_some, Option.some.injEq] at hb
      obtain ⟨e1, rfl⟩ := hb
      exact .inl ⟨p, ys, hp.rep m.sub, .inr (hq.rep m.sub), e1, hQ⟩
    | str t =>
      simp only [SW.cmp2v] at hb
      split at hb
      · rename_i c
        cases hb
        refine .inr (.inl ⟨c, toS t, hp.str_inv, hq.str_inv, ?_⟩)
        rw [if_neg Bool.false_ne_true, ← contains_mem]
        exact hQ
      · cases hb
    | _ => simp [SW.cmp2v] at hb
theorem opS_notin : OpS K (SW.cmpV .notin) (rIn3 K true) := by
  intro F R ρ μ H v w x y Q Wx m rv rw' P
  unfold SW.cmpV at P
  cases e : SW.dicAt w μ with
  | some kvs =>
    rw [e] at P
    obtain ⟨a, ks, rfl, h1, h2⟩ := dicAt_some m rw' e
    cases v with
    | o n => exact P.elim
    | v p =>
      dsimp only at P
      cases e2 : SW.keyOf p with
      | none => rw [e2] at P; exact P.elim
      | some k =>
        rw [e2] at P
        have hx := keyOf_rep e2 (show Rep K R p x from rv)
        subst hx
        refine .inr (.inr ⟨a, _, rfl, DGet.rd h1 (skey k), ?_⟩)
        rw [if_pos rfl, KR.isSome k h2]
        exact here_v m P (.bl _)
  | none =>
    rw [e] at P
    obtain ⟨p, q, b, hp, hq, hb, hQ⟩ := fCmp_plain m rv rw' P
    cases q with
    | lst ys =>
      simp only [SW.cmp2v, Option.ite_none_right_eq_some, Option.some.injEq] at hb
      obtain ⟨e1, rfl⟩ := hb
      exact .inl ⟨p, ys, hp.rep m.sub, .inl (hq.rep m.sub), e1, hQ⟩
    | tup ys =>
      simp only [SW.cmp2v, Option.ite_none_right_eq_some, Option.some.injEq] at hb
      obtain ⟨e1, rfl⟩ := hb
      exact .inl ⟨p, ys, hp.rep m.sub, .inr (hq.rep m.sub), e1, hQ⟩
    | str t =>
      simp only [SW.cmp2v] at hb
      split at hb
      · rename_i c
        cases hb
        refine .inr (.inl ⟨c, toS t, hp.str_inv, hq.str_inv, ?_⟩)
        rw [if_pos rfl, ← contains_mem]
        exact hQ
      · cases hb
    | _ => simp [SW.cmp2v] at hb
end
section
variable {X : Cx}
theorem op_is2 : OpR X (compareOp .Is) (rIs false) := op_isN.or op_is_bl
theorem op_isnot2 : OpR X (compareOp .IsNot) (rIs true) := op_notN.or op_isnot_bl
theorem op_in3 (hu : X.A.units + 100 < cLine) : OpR X (compareOp .In) (rIn3 X.K false) := (op_inP hu).or (op_in_sign.or (op_inDict hu))
theorem op_notin3 (hu : X.A.units + 100 < cLine) : OpR X (compareOp .NotIn) (rIn3 X.K true) := (op_notInP hu).or (op_notIn_sign.or (op_notInDict hu))
/-- the model's operator and its rule -/
def cmpAst : SW.CmpO → CmpOp
  | .eq => .Eq | .ne => .NotEq | .lt => .Lt | .le => .LtE | .gt => .Gt | .ge => .GtE | .isin => .In | .notin => .NotIn | .is => .Is | .isnot => .IsNot
def cmpR (K : Fg) : SW.CmpO → R2
  | .eq => rEqP K false | .ne => rEqP K true | .lt => rI0 fun i j => .bl (decide (i < j)) | .le => rI0 fun i j => .bl (decide (i ≤ j)) | .gt => rI0 fun i j => .bl (decide (j < i)) | .ge => rI0 fun i j => .bl (decide (j ≤ i))
  | .isin => rIn3 K false | .notin => rIn3 K true | .is => rIs false | .isnot => rIs true
theorem cmp_op (hu : X.A.units + 100 < cLine) : ∀ o : SW.CmpO, OpR X (compareOp (cmpAst o)) (cmpR X.K o)
  | .eq => op_eqP hu | .ne => op_neP hu | .lt => op_lt | .le => op_le | .gt => op_gt | .ge => op_ge | .isin => op_in3 hu | .notin => op_notin3 hu | .is => op_is2 | .isnot => op_isnot2
theorem cmp_opS (K : Fg) : ∀ o : SW.CmpO, OpS K (SW.cmpV o) (cmpR K o)
  | .eq => opS_eq | .ne => opS_ne | .lt => opS_lt | .le => opS_le | .gt => opS_gt | .ge => opS_ge | .isin => opS_in | .notin => opS_notin | .is => opS_is | .isnot => opS_isnot
/-- the model's arithmetic -/
def binAst : SW.Op2 → Operator
  | .add => .Add | .sub => .Sub | .mul => .Mult | .fdiv => .FloorDiv | .mod => .Mod | .pow => .Pow
def binR (K : Fg) : SW.Op2 → R2
  | .add => rAdd4 K | .sub => rI0 fun i j => .int (i - j) | .mul => rMul4 K | .fdiv => rI CDiv fun i j => .int (i / j) | .mod => rI (fun _ j => 0 < j) fun i j => .int (i % j) | .pow => rI CPow fun i j => .int (i ^ j.toNat)
theorem bin_op : ∀ o : SW.Op2, OpR X (binaryOp (binAst o)) (binR X.K o)
  | .add => op_add4 | .sub => op_sub | .mul => op_mul4 | .fdiv => op_fdiv | .mod => op_mod | .pow => op_pow
theorem bin_opS (K : Fg) : ∀ o : SW.Op2, OpS K (fBin o) (binR K o)
  | .add => opS_add K | .sub => opS_sub K | .mul => opS_mul K | .fdiv => opS_fdiv K | .mod => opS_mod K | .pow => opS_pow K
end
end SWS
end
section
set_option maxRecDepth 100000
/-! Expressions. -/
namespace SWS
open PySem PySem.Spec PyProof.Rows L2
open SW (PV Val MO Ky Mem Res M E OF It Cn Pat Fl view flat flats ofO bin2)

section
variable {X : Cx} {EC : Nat → Value} {W : WX} {a b c : Expr} {ga gb gc : LF Val} {pos : Pos}
/-! ### names, constants -/
def gVar (i : Nat) : LF Val := fun l => match l[i]? with
  | some (some v) => pure v
  | _ => SW.no
theorem ev_var {i : Nat} {x : Str} (hN : X.N[i]? = some x) (hv : Vis X.env.scope x) (hd : (x == ("__debug__" : Str)) = false) (hcd : (x == ("__classdict__" : Str)) = false) : PE X (.Name x pos) (liftE X.K EC W (gVar i)) := by
  refine PE.imp (pe_var hN hv hd hcd) fun σ H Q h => ?_
  obtain ⟨F, R, ρ, l, μ, m, s, P⟩ := h
  unfold gVar at P
  cases e : l[i]? with
  | none => rw [e] at P; exact P.elim
  | some o =>
    rw [e] at P
    cases o with
    | none => exact P.elim
    | some v =>
      obtain ⟨x, e', r⟩ := s.get i v e
      exact ⟨x, e', Post.here P m r⟩
theorem ev_const {e : Expr} {p : PV} {x : V} (h : PE X e (tC x)) (r : ∀ R, Rep X.K R p x) : PE X e (liftE X.K EC W fun _ => pure (Val.v p)) := by
  refine PE.imp h fun σ H Q h => ?_
  obtain ⟨F, R, ρ, l, μ, m, s, P⟩ := h
  exact here_v m P (r R)

/-! ### operators -/
theorem ev_bin2 {o : SW.Op2} (ha : PE X a (liftE X.K EC W ga)) (hb : PE X b (liftE X.K EC W gb)) :
    PE X (.BinOp a (binAst o) b pos) (liftE X.K EC W fun l => do let x ← ga l; let y ← gb l; fBin o x y) := ev_bin (bin_op o) (bin_opS X.K o) ha hb
theorem ev_cmp1 {o : SW.CmpO} (hu : X.A.units + 100 < cLine) (ha : PE X a (liftE X.K EC W ga)) (hb : PE X b (liftE X.K EC W gb)) (hm : behindInMarks (cmpAst o) b = false) :
    PE X (.Compare a [cmpAst o] [b] pos) (liftE X.K EC W fun l => do let x ← ga l; let y ← gb l; SW.cmpV o x y) := ev_cmp (cmp_op hu o) (cmp_opS X.K o) ha hb hm
def gCmp2 (o p : SW.CmpO) (ga gb gc : LF Val) : LF Val := fun l => do
  let x ← ga l
  let y ← gb l
  let r ← SW.cmpV o x y
  match r with
    | .v (.bl true) => do
      let z ← gc l
      SW.cmpV p y z
    | .v (.bl false) => pure (Val.v (.bl false))
    | _ => SW.no
theorem ev_cmp2 {o p : SW.CmpO} (hu : X.A.units + 100 < cLine) (ha : PE X a (liftE X.K EC W ga)) (hb : PE X b (liftE X.K EC W gb)) (hc : PE X c (liftE X.K EC W gc)) (hm : behindInMarks (cmpAst p) c = false) :
    PE X (.Compare a [cmpAst o, cmpAst p] [b, c] pos) (liftE X.K EC W (gCmp2 o p ga gb gc)) := by
  refine PE.imp (pe_chain (cmp_op hu o) (cmp_op hu p) ha hb hc (by show lastMarks [cmpAst o, cmpAst p] [b, c] = false; exact hm)) fun σ H Q h => ?_
  refine lift_bind h fun F R ρ l μ H1 v x m s r P => ?_
  refine lift_next (Wx := fun _ _ => True) m s P fun R2 ρ2 μ2 H2 w y s2 p2 m2 sr2 r2 P2 => ?_
  refine cmp_opS X.K o F R2 ρ2 μ2 H2 v w x y _ _ m2 (r.mono s2 p2) r2 (Post.imp (Post.bind (rel := VR X.K) P2) ?_)
  rintro z H3 ⟨R3, ρ3, q, μ3, s3, p3, m3, r3, _, P3⟩
  cases q with
  | o n => exact P3.elim
  | v q =>
    cases q with
    | bl k =>
      refine ⟨k, Rep.bl_inv r3, ?_⟩
      cases k with
      | true =>
        rw [if_pos rfl]
        exact lift_next (Wx := fun _ _ => True) m3 (sr2.mono s3 p3) P3 fun R4 ρ4 μ4 H4 t w4 s4 p4 m4 _ r4 P4 =>
          cmp_opS X.K p F R4 ρ4 μ4 H4 w t y w4 Q _ m4 (r2.mono (s3.trans s4) (p3.trans p4)) r4 P4
      | false =>
        rw [if_neg Bool.false_ne_true]
        exact here_v m3 P3 (.bl _)
    | _ => exact P3.elim

/-! ### not, and, or, if -/
/-- a truth value, or nothing -/
theorem Post.blCase {α β : Type} {K : Fg} {rel : Hp → List Addr → α → β → Prop} {Wx : Nat → Hp → Prop} {R : Hp} {ρ : List Addr} {μ : Mem} {Q : β → Hp → Prop} {v : Val} {x : V} {t f : Mem → Res α} (r : VR K R ρ v x)
    (P : Post F K rel Wx R ρ ((match v with | .v (.bl true) => t | .v (.bl false) => f | _ => fun _ => .no) μ) Q) : ∃ k, x = .bl k ∧ Post F K rel Wx R ρ ((if k then t else f) μ) Q := by
  cases v with
  | o n => exact P.elim
  | v p =>
    cases p with
    | bl k =>
      refine ⟨k, Rep.bl_inv r, ?_⟩
      cases k with
      | true => exact P
      | false => exact P
    | _ => exact P.elim
def gAnd (ga gb : LF Val) : LF Val := fun l => do
  let x ← ga l
  match x with
    | .v (.bl true) => gb l
    | .v (.bl false) => pure (Val.v (.bl false))
    | _ => SW.no
def gOr (ga gb : LF Val) : LF Val := fun l => do
  let x ← ga l
  match x with
    | .v (.bl true) => pure (Val.v (.bl true))
    | .v (.bl false) => gb l
    | _ => SW.no
def gNot (ga : LF Val) : LF Val := fun l => do
  let x ← ga l
  match x with
    | .v (.bl b) => pure (Val.v (.bl (!b)))
    | _ => SW.no
theorem ev_and {rest : List Expr} (ha : PE X a (liftE X.K EC W ga)) (hb : PE X (.BoolOp .And (b :: rest) pos) (liftE X.K EC W gb)) : PE X (.BoolOp .And (a :: b :: rest) pos) (liftE X.K EC W (gAnd ga gb)) := by
  refine PE.imp (pe_and ha hb) fun σ H Q h => ?_
  refine lift_bind h fun F R ρ l μ H1 v x m s r P => ?_
  obtain ⟨k, rfl, P⟩ := Post.blCase (t := gb l) (f := fun μ => .ok (Val.v (.bl false)) μ) r P
  refine ⟨k, rfl, ?_⟩
  cases k with
  | true => rw [if_pos rfl]; exact lift_intro m s P
  | false => rw [if_neg Bool.false_ne_true]; exact here_v m P (.bl _)
theorem ev_or {rest : List Expr} (ha : PE X a (liftE X.K EC W ga)) (hb : PE X (.BoolOp .Or (b :: rest) pos) (liftE X.K EC W gb)) : PE X (.BoolOp .Or (a :: b :: rest) pos) (liftE X.K EC W (gOr ga gb)) := by
  refine PE.imp (pe_or ha hb) fun σ H Q h => ?_
  refine lift_bind h fun F R ρ l μ H1 v x m s r P => ?_
  obtain ⟨k, rfl, P⟩ := Post.blCase (t := fun μ => .ok (Val.v (.bl true)) μ) (f := gb l) r P
  refine ⟨k, rfl, ?_⟩
  cases k with
  | true => rw [if_pos rfl]; exact here_v m P (.bl _)
  | false => rw [if_neg Bool.false_ne_true]; exact lift_intro m s P
theorem ev_not (ha : PE X a (liftE X.K EC W ga)) : PE X (.UnaryOp .Not a pos) (liftE X.K EC W (gNot ga)) := by
  refine PE.imp (pe_not ha) fun σ H Q h => ?_
  refine lift_bind h fun F R ρ l μ H1 v x m s r P => ?_
  cases v with
  | o n => exact P.elim
  | v p =>
    cases p with
    | bl k => exact ⟨k, Rep.bl_inv r, here_v m P (.bl _)⟩
    | _ => exact P.elim
def gNeg (ga : LF Val) : LF Val := fun l => do
  let x ← ga l
  match x with
    | .v (.int i) => pure (Val.v (.int (-i)))
    | _ => SW.no
theorem ev_neg (ha : PE X a (liftE X.K EC W ga)) : PE X (.UnaryOp .USub a pos) (liftE X.K EC W (gNeg ga)) := by
  refine PE.imp (pe_un un_neg ha) fun σ H Q h => ?_
  refine lift_bind h fun F R ρ l μ H1 v x m s r P => ?_
  cases v with
  | o n => exact P.elim
  | v p =>
    cases p with
    | int k => exact ⟨k, Rep.int_inv r, here_v m P (.int _)⟩
    | _ => exact P.elim
/-! tests -/
def gAndT (ga gb : LF Bool) : LF Bool := fun l => do
  let x ← ga l
  if x then gb l else pure false
def gOrT (ga gb : LF Bool) : LF Bool := fun l => do
  let x ← ga l
  if x then pure true else gb l
def gNotT (ga : LF Bool) : LF Bool := fun l => do
  let x ← ga l
  pure (!x)
structure PWl (X : Cx) (e : Expr) (t : TT) : Prop where
  pw : PW X e t
theorem PW.imp {e : Expr} {t t' : TT} (h : PW X e t) (i : ∀ σ H Q, t' σ H Q → t σ H Q) : PW X e t' := ⟨fun wh pins s σ H Q I q => h.run wh pins s σ H Q I (i _ _ _ q)⟩
theorem tt_and {gt gu : LF Bool} {rest : List Expr} (ha : PT X a (liftT X.K EC W gt)) (hb : PW X (.BoolOp .And (b :: rest) pos) (liftT X.K EC W gu)) : PW X (.BoolOp .And (a :: b :: rest) pos) (liftT X.K EC W (gAndT gt gu)) := by
  refine PW.imp (pw_and ha hb) fun σ H Q h => ?_
  refine lift_bind h fun F R ρ l μ H1 v x m s r P => ?_
  have r : v = x := r
  subst r
  cases v with
  | true => rw [if_pos rfl]; exact lift_intro m s P
  | false => rw [if_neg Bool.false_ne_true]; exact Post.here P m rfl
theorem tt_or {gt gu : LF Bool} {rest : List Expr} (ha : PT X a (liftT X.K EC W gt)) (hb : PW X (.BoolOp .Or (b :: rest) pos) (liftT X.K EC W gu)) : PW X (.BoolOp .Or (a :: b :: rest) pos) (liftT X.K EC W (gOrT gt gu)) := by
  refine PW.imp (pw_or ha hb) fun σ H Q h => ?_
  refine lift_bind h fun F R ρ l μ H1 v x m s r P => ?_
  have r : v = x := r
  subst r
  cases v with
  | true => rw [if_pos rfl]; exact Post.here P m rfl
  | false => rw [if_neg Bool.false_ne_true]; exact lift_intro m s P
theorem tt_not {gt : LF Bool} (ha : PT X a (liftT X.K EC W gt)) : PT X (.UnaryOp .Not a pos) (liftT X.K EC W (gNotT gt)) := by
  refine PT.imp (pt_not ha) fun σ H Q h => ?_
  refine lift_bind h fun F R ρ l μ H1 v x m s r P => ?_
  have r : v = x := r
  subst r
  exact Post.here P m rfl
theorem truV {R H : Hp} {ρ : List Addr} {μ : Mem} {v : Val} {x : V} {Q : Bool → Hp → Prop} {Wx : Nat → Hp → Prop} (m : MR F X.K R ρ μ H) (r : VR X.K R ρ v x) (P : Post F X.K relB Wx R ρ (SW.truth v μ) Q) : ∃ k, TruV X.K x H k ∧ Q k H := by
  cases v with
  | v p =>
    have r : Rep X.K R p x := r
    cases p with
    | non => rw [r.non_inv]; exact ⟨false, rfl, Post.here P m rfl⟩
    | bl b => rw [r.bl_inv]; exact ⟨b, rfl, Post.here P m rfl⟩
    | int i =>
      rw [r.int_inv]
      refine ⟨_, rfl, Post.here P m ?_⟩
      show decide (i ≠ 0) = (i != 0)
      by_cases h : i = 0 <;> simp [h]
    | str s => exact P.elim
    | tup ps =>
      obtain ⟨a, vs, rfl, h1, h2⟩ := r.tup_inv
      refine ⟨!vs.isEmpty, .inr (.inl ⟨vs, SqT.mono m.sub h1, rfl⟩), Post.here P m ?_⟩
      show (!ps.isEmpty) = !vs.isEmpty
      cases h2 <;> rfl
    | lst ps =>
      obtain ⟨a, vs, rfl, h1, h2⟩ := r.lst_inv
      refine ⟨!vs.isEmpty, .inl ⟨vs, .inl (Rd.mono m.sub h1), rfl⟩, Post.here P m ?_⟩
      show (!ps.isEmpty) = !vs.isEmpty
      cases h2 <;> rfl
  | o n =>
    obtain ⟨a, e, rfl⟩ := r
    have et : SW.truth (.o n) μ = match μ[n]? with
      | some o => match SW.seqOf o with | some xs => .ok (!xs.isEmpty) μ | none => .no
      | none => .no := rfl
    rw [et] at P
    cases e1 : μ[n]? with
    | none => rw [e1] at P; exact P.elim
    | some o =>
      rw [e1] at P
      dsimp only at P
      cases e2 : SW.seqOf o with
      | none => rw [e2] at P; exact P.elim
      | some ps =>
        rw [e2] at P
        obtain ⟨vs, h1, h2⟩ := seqOf_or (m.obj n o a e1 e) e2
        refine ⟨!vs.isEmpty, .inl ⟨vs, .inl (.inl h1), rfl⟩, Post.here P m ?_⟩
        show (!ps.isEmpty) = !vs.isEmpty
        cases h2 <;> rfl
/-- a test that is a value's truth -/
theorem tt_val (ha : PE X a (liftE X.K EC W ga)) (he : ∀ whole, isTrue a X.env whole = (do let v ← whole; standAt a.pos; holding [v] (truthy v))) : PT X a (liftT X.K EC W fun l => do let v ← ga l; SW.truth v) := by
  refine PT.imp (pt_truth ha he) fun σ H Q h => ?_
  exact lift_bind h fun F R ρ l μ H1 v x m s r P => truV m r P
end
theorem rbind_assoc {α β γ : Type} (x : Res α) (f : α → Mem → Res β) (g : β → Mem → Res γ) : (x.bind f).bind g = x.bind fun a μ => (f a μ).bind g := by cases x <;> rfl
theorem m_assoc {α β γ : Type} (x : M α) (f : α → M β) (g : β → M γ) : ((x >>= f) >>= g) = x >>= fun a => f a >>= g := by
  funext μ
  exact rbind_assoc (x μ) f g
theorem m_pure_bind {α β : Type} (a : α) (f : α → M β) : ((pure a : M α) >>= f) = f a := rfl
theorem view_ok {v : Val} {μ μ' : Mem} {p : PV} (e : view v μ = .ok p μ') : μ' = μ := by
  cases v with
  | v q => cases e; rfl
  | o n =>
    have et : view (.o n) μ = match μ[n]? with
      | some o => match SW.seqOf o with | some xs => .ok (.lst xs) μ | none => .no
      | none => .no := rfl
    rw [et] at e
    split at e
    · split at e
      · cases e; rfl
      · cases e
    · cases e
theorem res_bind_ok {α β : Type} {x : Res α} {f : α → Mem → Res β} {b : β} {ν : Mem} (e : x.bind f = .ok b ν) : ∃ a μ, x = .ok a μ ∧ f a μ = .ok b ν := by
  cases x with
  | ok a μ => exact ⟨a, μ, rfl, e⟩
  | exn c μ => cases e
  | no => cases e
theorem cmpV_bl {o : SW.CmpO} {x y a : Val} {μ μ' : Mem} (e : SW.cmpV o x y μ = .ok a μ') : ∃ b, a = .v (.bl b) := by
  have plain : ∀ {a : Val} {μ' : Mem}, ((do let p ← view x; let q ← view y; let b ← ofO (SW.cmp2v o p q); pure (Val.v (.bl b))) : M Val) μ = .ok a μ' → ∃ b, a = .v (.bl b) := by
    intro a μ' e
    obtain ⟨p, μ1, _, e⟩ := res_bind_ok e
    obtain ⟨q, μ2, _, e⟩ := res_bind_ok e
    obtain ⟨b, μ3, _, e⟩ := res_bind_ok e
    cases e
    exact ⟨b, rfl⟩
  unfold SW.cmpV at e
  split at e
  · split at e
    · split at e
      · cases e; exact ⟨_, rfl⟩
      · cases e
    · cases e
  · split at e
    · split at e
      · cases e; exact ⟨_, rfl⟩
      · cases e
    · cases e
  · cases e
  · exact plain e
section
variable {X : Cx} {EC : Nat → Value} {W : WX} {a b c : Expr} {ga gb gc : LF Val} {pos : Pos}
theorem lift_congr {K : Fg} {α β : Type} {rel : Hp → List Addr → α → β → Prop} {g g' : LF α} (e : ∀ l, g l = g' l) {σ : L2.St} {H : Hp} {Q : β → Hp → Prop} (h : lift K EC W rel g σ H Q) : lift K EC W rel g' σ H Q := by
  have : g = g' := funext e
  rw [← this]; exact h
/-- a comparison as a test -/
theorem tt_cmp1 {o : SW.CmpO} (hu : X.A.units + 100 < cLine) (ha : PE X a (liftE X.K EC W ga)) (hb : PE X b (liftE X.K EC W gb)) (hm : behindInMarks (cmpAst o) b = false) :
    PT X (.Compare a [cmpAst o] [b] pos) (liftT X.K EC W fun l => do let v ← (do let x ← ga l; let y ← gb l; SW.cmpV o x y); SW.truth v) := by
  refine PT.imp (pt_cmpR (cmp_op hu o) ha hb hm) fun σ H Q h => ?_
  have h := lift_congr (g' := fun l => do let x ← ga l; let y ← gb l; let v ← SW.cmpV o x y; SW.truth v) (fun l => by rw [m_assoc]; congr 1; funext x; rw [m_assoc]) h
  refine lift_bind h fun F R ρ l μ H1 v x m s r P => ?_
  refine lift_next (Wx := fun _ _ => True) m s P fun R2 ρ2 μ2 H2 w y s2 p2 m2 _ r2 P2 => ?_
  refine cmp_opS X.K o F R2 ρ2 μ2 H2 v w x y _ _ m2 (r.mono s2 p2) r2 (Post.imp (Post.bind (rel := VR X.K) P2) ?_)
  rintro z H3 ⟨R3, ρ3, q, μ3, s3, p3, m3, r3, e3, P3⟩
  obtain ⟨b, rfl⟩ := cmpV_bl e3
  exact ⟨b, Rep.bl_inv r3, Post.here P3 m3 rfl⟩
theorem gCmp2_bl {o p : SW.CmpO} {l : SW.Loc} {a : Val} {μ μ' : Mem} (e : gCmp2 o p ga gb gc l μ = .ok a μ') : ∃ b, a = .v (.bl b) := by
  unfold gCmp2 at e
  obtain ⟨x, μ1, _, e⟩ := res_bind_ok e
  obtain ⟨y, μ2, _, e⟩ := res_bind_ok e
  obtain ⟨r, μ3, _, e⟩ := res_bind_ok e
  cases r with
  | o n => cases e
  | v q =>
    cases q with
    | bl k =>
      cases k with
      | true =>
        obtain ⟨z, μ4, _, e⟩ := res_bind_ok e
        exact cmpV_bl e
      | false => cases e; exact ⟨_, rfl⟩
    | _ => cases e
theorem tt_cmp2 {o p : SW.CmpO} (hu : X.A.units + 100 < cLine) (ha : PE X a (liftE X.K EC W ga)) (hb : PE X b (liftE X.K EC W gb)) (hc : PE X c (liftE X.K EC W gc)) (hm : behindInMarks (cmpAst p) c = false) :
    PT X (.Compare a [cmpAst o, cmpAst p] [b, c] pos) (liftT X.K EC W fun l => do let v ← gCmp2 o p ga gb gc l; SW.truth v) := by
  refine PT.imp (pt_chain (cmp_op hu o) (cmp_op hu p) ha hb hc (by show lastMarks [cmpAst o, cmpAst p] [b, c] = false; exact hm)) fun σ H Q h => ?_
  have h := lift_congr (g' := fun l => do
    let x ← ga l
    let y ← gb l
    let r ← SW.cmpV o x y
    let v ← (match r with
      | .v (.bl true) => do
        let z ← gc l
        SW.cmpV p y z
      | .v (.bl false) => pure (Val.v (.bl false))
      | _ => SW.no)
    SW.truth v) (fun l => by unfold gCmp2; rw [m_assoc]; congr 1; funext x; rw [m_assoc]; congr 1; funext y; rw [m_assoc]) h
  refine lift_bind h fun F R ρ l μ H1 v x m s r P => ?_
  refine lift_next (Wx := fun _ _ => True) m s P fun R2 ρ2 μ2 H2 w y s2 p2 m2 sr2 r2 P2 => ?_
  refine cmp_opS X.K o F R2 ρ2 μ2 H2 v w x y _ _ m2 (r.mono s2 p2) r2 (Post.imp (Post.bind (rel := VR X.K) P2) ?_)
  rintro z H3 ⟨R3, ρ3, q, μ3, s3, p3, m3, r3, _, P3⟩
  cases q with
  | o n => exact P3.elim
  | v q =>
    cases q with
    | bl k =>
      refine ⟨k, Rep.bl_inv r3, ?_⟩
      cases k with
      | true =>
        rw [if_pos rfl]
        have P3 : Post F X.K relB (wx EC W σ) R3 ρ3 (((gc l >>= fun z => SW.cmpV p w z >>= SW.truth)) μ3) Q := by
          have e := m_assoc (gc l) (fun z => SW.cmpV p w z) SW.truth
          rw [← e]
          exact P3
        refine lift_next (Wx := fun _ _ => True) m3 (sr2.mono s3 p3) P3 fun R4 ρ4 μ4 H4 t w4 s4 p4 m4 _ r4 P4 => ?_
        refine cmp_opS X.K p F R4 ρ4 μ4 H4 w t y w4 _ _ m4 (r2.mono (s3.trans s4) (p3.trans p4)) r4 (Post.imp (Post.bind (rel := VR X.K) P4) ?_)
        rintro z5 H5 ⟨R5, ρ5, q5, μ5, s5, p5, m5, r5, e5, P5⟩
        obtain ⟨b, rfl⟩ := cmpV_bl e5
        exact ⟨b, Rep.bl_inv r5, Post.here P5 m5 rfl⟩
      | false =>
        rw [if_neg Bool.false_ne_true]
        exact ⟨false, rfl, Post.here P3 m3 rfl⟩
    | _ => exact P3.elim
/-! ### a if t else b -/
theorem ev_ite {gt : LF Bool} (ht : PT X c (liftT X.K EC W gt)) (ha : PE X a (liftE X.K EC W ga)) (hb : PE X b (liftE X.K EC W gb)) :
    PE X (.IfExp c a b pos) (liftE X.K EC W fun l => do let x ← gt l; if x then ga l else gb l) := by
  refine PE.imp (pe_ifExp ht ha hb) fun σ H Q h => ?_
  refine lift_bind h fun F R ρ l μ H1 v x m s r P => ?_
  have r : v = x := r
  subst r
  cases v with
  | true => rw [if_pos rfl]; exact lift_intro m s P
  | false => rw [if_neg Bool.false_ne_true]; exact lift_intro m s P

theorem lift_bindE {α β γ δ : Type} {rel1 : Hp → List Addr → α → β → Prop} {rel2 : Hp → List Addr → γ → δ → Prop} {K : Fg} {g : LF α} {f : SW.Loc → α → M γ} {σ : L2.St} {H : Hp} {Q : δ → Hp → Prop} {Q1 : β → Hp → Prop}
    (h : lift K EC W rel2 (fun l => g l >>= f l) σ H Q)
    (i : ∀ F R ρ l μ0 μ H1 a y, g l μ0 = .ok a μ → MR F K R ρ μ H1 → SR K R ρ l σ → rel1 R ρ a y → Post F K rel2 (wx EC W σ) R ρ (f l a μ) Q → Q1 y H1) : lift K EC W rel1 g σ H Q1 := by
  obtain ⟨F, R, ρ, l, μ, m, s, P⟩ := h
  refine ⟨F, R, ρ, l, μ, m, s, Post.imp (Post.bind (rel := rel1) P) ?_⟩
  rintro y H1 ⟨R1, ρ1, a, μ1, s1, p1, m1, r1, e, P1⟩
  exact i F R1 ρ1 l μ μ1 H1 a y e m1 (s.mono s1 p1) r1 P1
/-! ### lists of expressions, displays -/
theorem ev_nil : PA X [] (liftA X.K EC W fun _ => pure []) := by
  refine PA.imp pa_nil fun σ H Q h => ?_
  obtain ⟨F, R, ρ, l, μ, m, s, P⟩ := h
  exact Post.here P m .nil
theorem ev_cons {es : List Expr} {gs : LF (List Val)} (ha : PE X a (liftE X.K EC W ga)) (hr : PA X es (liftA X.K EC W gs)) (hs : starEach (a :: es) X.env = (false, eval a X.env) :: starEach es X.env) :
    PA X (a :: es) (liftA X.K EC W fun l => do let v ← ga l; let vs ← gs l; pure (v :: vs)) := by
  refine PA.imp (pa_cons ha hr hs) fun σ H Q h => ?_
  refine lift_bind h fun F R ρ l μ H1 v x m s r P => ?_
  exact lift_next (Wx := fun _ _ => True) m s P fun R2 ρ2 μ2 H2 w y s2 p2 m2 _ r2 P2 => Post.here P2 m2 (.cons (r.mono s2 p2) r2)
theorem ev_tup {es : List Expr} {gs : LF (List Val)} {k : Nat} (h : PA X es (liftA X.K EC W gs)) (hn : ∀ l μ vs ν, gs l μ = .ok vs ν → vs.length ≤ 16777216) :
    PE X (.Tuple es k pos) (liftE X.K EC W fun l => do let vs ← gs l; let ps ← flats vs; pure (Val.v (.tup ps))) := by
  refine PE.imp (pe_tup h) fun σ H Q h => ?_
  refine lift_bindE h fun F R ρ l μ0 μ H1 vs xs e m s r P => ?_
  have hl := hn _ _ _ _ e
  obtain ⟨ps, rps, P⟩ := flats_cases r P
  refine ⟨by rw [← r.length, sizeLine_eq]; exact hl, fresh_tup m rps P⟩
theorem ev_lst {es : List Expr} {gs : LF (List Val)} (h : PA X es (liftA X.K EC W gs)) (hn : ∀ l μ vs ν, gs l μ = .ok vs ν → vs.length ≤ 16777216) :
    PE X (.List es pos) (liftE X.K EC W fun l => do let vs ← gs l; let ps ← flats vs; pure (Val.v (.lst ps))) := by
  refine PE.imp (pe_lst h) fun σ H Q h => ?_
  refine lift_bindE h fun F R ρ l μ0 μ H1 vs xs e m s r P => ?_
  have hl := hn _ _ _ _ e
  obtain ⟨ps, rps, P⟩ := flats_cases r P
  refine ⟨by rw [← r.length, sizeLine_eq]; exact hl, fresh_lst m rps P⟩
end

/-! ### subscripts -/
theorem atN_atI {α : Type} (xs : List α) (i : Int) : SW.atN xs i = L2.atI xs i := by
  unfold SW.atN L2.atI ixN
  by_cases h0 : 0 ≤ i
  · rw [if_pos h0, if_pos h0]
    by_cases h1 : i < xs.length
    · rw [if_pos h1]; rfl
    · rw [if_neg h1]; exact List.getElem?_eq_none (by omega)
  · rw [if_neg h0, if_neg h0]
    by_cases h1 : -(xs.length : Int) ≤ i
    · rw [if_pos h1, if_pos (by omega)]; rfl
    · rw [if_neg h1, if_neg (by omega)]; rfl
theorem Reps.atI {K : Fg} {R : Hp} {ps : List PV} {xs : List V} {i : Int} {p : PV} (h : Reps K R ps xs) (e : SW.atN ps i = some p) : ∃ x, L2.atI xs i = some x ∧ Rep K R p x := by
  rw [← atN_atI]
  unfold SW.atN at e ⊢
  rw [h.length]
  split at e
  · rw [if_pos (by assumption)]; exact h.get e
  · rw [if_neg (by assumption)]
    split at e
    · rw [if_pos (by assumption)]; exact h.get e
    · cases e
def rIxD : R2 := fun x y H Q => ∃ a v, x = .ref a ∧ DGet H a y (some v) ∧ Q v H
theorem ix_dict {X : Cx} (hu : X.A.units + 1 < cLine) : IxR X rIxD := by
  intro value slice pins s σ H x y v u Q I rx ry h hs
  obtain ⟨a, z, rfl, g, q⟩ := h
  obtain rfl : v = Value.ref a := rx
  exact tail_any (dict_typeIs I g) PySem.F.slot_dict_getitem.lookup (d_getItem hu I g ry fun w' s3 I3 rw' => ⟨z, H, I3, rw', q⟩) hs
theorem view_flat {v : Val} {μ : Mem} {p : PV} (h : flat v μ = .ok p μ) : v = .v p := by
  cases v with
  | v q => cases h; rfl
  | o n => cases h
def gIx (x : Val) (q : PV) : M Val := fun μ => match SW.dicAt x μ with
  | some kvs => match SW.keyOf q with
    | some k => match SW.dget kvs k with
      | some v => .ok (Val.v v) μ
      | none => .no
    | none => .no
  | none => (do
    let p ← view x
    match p, q with
      | .tup xs, .int i => do
        let r ← ofO (SW.atN xs i)
        pure (Val.v r)
      | .lst xs, .int i => do
        let r ← ofO (SW.atN xs i)
        pure (Val.v r)
      | .str xs, .int i => do
        let r ← ofO (SW.atS xs i)
        pure (Val.v r)
      | _, _ => SW.no) μ
def rIx4 (K : Fg) : R2 := fun x y H Q => rIx K x y H Q ∨ rIxD x y H Q
theorem Vw.sq {K : Fg} {R H : Hp} {ps : List PV} {x : V} (h : Vw K R H (.lst ps) x) : ∃ a vs, x = .ref a ∧ SqL K H a vs ∧ Reps K R ps vs := by
  obtain ⟨a, vs, rfl, h1, h2⟩ := h.lst_inv
  exact ⟨a, vs, rfl, .inl h1, h2⟩
theorem gIx_ok {K : Fg} {R H : Hp} {ρ : List Addr} {μ : Mem} {v w : Val} {x y : V} {Q : VK} {Wx : Nat → Hp → Prop} (m : MR F K R ρ μ H) (r : VR K R ρ v x) (r2 : VR K R ρ w y) (P : Post F K (VR K) Wx R ρ ((flat w >>= fun q => gIx v q) μ) Q) : rIx4 K x y H Q := by
  obtain ⟨q, rfl, rq, P⟩ := flat_cases r2 P
  unfold gIx at P
  dsimp only at P
  cases e : SW.dicAt v μ with
  | some kvs =>
    rw [e] at P
    obtain ⟨a, ks, rfl, h1, h2⟩ := dicAt_some m r e
    dsimp only at P
    cases e2 : SW.keyOf q with
    | none => rw [e2] at P; exact P.elim
    | some k =>
      rw [e2] at P
      have hx := keyOf_rep e2 rq
      subst hx
      dsimp only at P
      rcases h2.get (fun _ _ => skey_inj) k with ⟨e3, e4⟩ | ⟨p, z, e3, e4, rz⟩
      · rw [e3] at P; exact P.elim
      · rw [e3] at P
        refine .inr ⟨a, z, rfl, ?_, here_v m P rz⟩
        rw [← e4]; exact DGet.rd h1 (skey k)
  | none =>
    rw [e] at P
    obtain ⟨p, hp, P⟩ := view_cases m r P
    cases q with
    | int i =>
      have hy := rq.int_inv
      subst hy
      cases p with
      | tup ps =>
        obtain ⟨z, ez, P⟩ := ofO_cases P
        obtain ⟨a, xs, rfl, h1, rs⟩ := hp.tup_inv
        obtain ⟨x, ex, rx⟩ := rs.atI ez
        exact .inl (.inr (.inl ⟨a, xs, i, x, rfl, rfl, SqT.mono m.sub h1, ex, here_v m P rx⟩))
      | lst ps =>
        obtain ⟨z, ez, P⟩ := ofO_cases P
        obtain ⟨a, xs, rfl, h1, rs⟩ := hp.sq
        obtain ⟨x, ex, rx⟩ := rs.atI ez
        exact .inl (.inl ⟨a, xs, i, x, rfl, rfl, h1, ex, here_v m P rx⟩)
      | str t =>
        obtain ⟨z, ez, P⟩ := ofO_cases P
        unfold SW.atS at ez
        split at ez
        · rename_i hz
          obtain ⟨c, ec, rfl⟩ := Option.map_eq_some_iff.mp ez
          have hx := hp.str_inv
          subst hx
          refine .inl (.inr (.inr ⟨toS t, i, c, rfl, rfl, by rw [toS_len]; exact okN_le hz, ?_, here_v m P (.str [c])⟩))
          rw [← atN_atI]
          have : (toS t).cps.toList = t := by simp [toS]
          rw [this]; exact ec
        · cases ez
      | _ => exact P.elim
    | _ => cases p <;> exact P.elim
section
variable {X : Cx} {EC : Nat → Value} {W : WX} {a b c : Expr} {ga gb gc : LF Val} {pos : Pos}
theorem ev_idx (hu : X.A.units + 1 < cLine) (hb0 : PlainIx b) (ha : PE X a (liftE X.K EC W ga)) (hb : PE X b (liftE X.K EC W gb)) :
    PE X (.Subscript a b pos) (liftE X.K EC W fun l => do let x ← ga l; let y ← gb l; let q ← flat y; gIx x q) := by
  refine PE.imp (pe_ix (ix_seq.or (ix_dict hu)) ha hb hb0) fun σ H Q h => ?_
  refine lift_bind h fun F R ρ l μ H1 v x m s r P => ?_
  refine lift_next (Wx := fun _ _ => True) m s P fun R2 ρ2 μ2 H2 w y s2 p2 m2 _ r2 P2 => gIx_ok m2 (r.mono s2 p2) r2 P2
/-! slices -/
def liftO (K : Fg) (EC : Nat → Value) (W : WX) (g : LF (Option Int)) : TO := lift K EC W (fun _ _ a b => a = b) g
theorem PO.imp {e : Option Expr} {t t' : TO} (h : PO X e t) (i : ∀ σ H Q, t' σ H Q → t σ H Q) : PO X e t' := ⟨fun pins s σ H Q I q => h.run pins s σ H Q I (i _ _ _ q)⟩
theorem po_no : PO X none (liftO X.K EC W fun _ => pure none) := by
  refine PO.imp po_none fun σ H Q h => ?_
  obtain ⟨F, R, ρ, l, μ, m, s, P⟩ := h
  exact Post.here P m rfl
theorem po_yes (ha : PE X a (liftE X.K EC W ga)) : PO X (some a) (liftO X.K EC W fun l => do let v ← ga l; SW.optI (some v)) := by
  refine PO.imp (po_some ha) fun σ H Q h => ?_
  refine lift_bind h fun F R ρ l μ H1 v x m s r P => ?_
  unfold SW.optI at P
  obtain ⟨q, rfl, rq, P⟩ := flat_cases r P
  cases q with
  | int i => exact ⟨i, rq.int_inv, Post.here P m rfl⟩
  | _ => exact P.elim
def gCut (p : PV) (i j : Option Int) : M Val := match p with
  | .tup xs => pure (Val.v (.tup (SW.cut xs i j)))
  | .lst xs => pure (Val.v (.lst (SW.cut xs i j)))
  | .str xs => if SW.okN xs.length then pure (Val.v (.str (SW.cut xs i j))) else SW.no
  | _ => SW.no
theorem sIx_eq (n d : Nat) (i : Option Int) : SW.sIx n d i = HT.sIx n d i := rfl
theorem Reps.cut {K : Fg} {R : Hp} {ps : List PV} {xs : List V} (h : Reps K R ps xs) (i j : Option Int) : Reps K R (SW.cut ps i j) (cutV xs i j) := by
  unfold SW.cut cutV
  rw [h.length]
  exact (h.drop _).take _
def rSl4 (K : Fg) : V → Option Int → Option Int → Hp → VK → Prop := fun x lo hi H Q => rSlA K x lo hi H Q ∨ (rSlL K x lo hi H Q ∨ rSlS x lo hi H Q)
theorem ev_slc {lo hi : Option Expr} {gl gh : LF (Option Int)} {p2 : Pos} (ha : PE X a (liftE X.K EC W ga)) (hl : PO X lo (liftO X.K EC W gl)) (hh : PO X hi (liftO X.K EC W gh)) :
    PE X (.Subscript a (.Slice lo hi none p2) pos) (liftE X.K EC W fun l => do let x ← ga l; let i ← gl l; let j ← gh l; let p ← view x; gCut p i j) := by
  refine PE.imp (pe_slice (r := rSl4 X.K) (sl_tupA.or (sl_list.or sl_str)) ha hl hh) fun σ H Q h => ?_
  refine lift_bind h fun F R ρ l μ H1 v x m s r P => ?_
  refine lift_next (Wx := fun _ _ => True) m s P fun R2 ρ2 μ2 H2 i i' s2 p2 m2 sr2 r2 P2 => ?_
  refine lift_next (Wx := fun _ _ => True) m2 sr2 P2 fun R3 ρ3 μ3 H3 j j' s3 p3 m3 sr3 r3 P3 => ?_
  have r2 : i = i' := r2
  have r3 : j = j' := r3
  subst r2 r3
  obtain ⟨p, hp, P4⟩ := view_cases m3 (r.mono (s2.trans s3) (p2.trans p3)) P3
  cases p with
  | tup ps =>
    obtain ⟨a, xs, rfl, h1, rs⟩ := hp.tup_inv
    refine .inl ⟨a, xs, rfl, SqT.mono m3.sub h1, fun hw => ?_, fun _ => fresh_tup m3 (rs.cut i j) P4⟩
    have : SW.cut ps i j = ps := by
      unfold SW.cut
      rw [sIx_eq, sIx_eq, ← rs.length, hw.1, hw.2, List.drop_zero, Nat.sub_zero]
      exact List.take_of_length_le (by rw [rs.length]; exact Nat.le_refl _)
    exact here_v m3 P4 (by rw [this]; exact .tup h1 rs)
  | lst ps =>
    obtain ⟨a, xs, rfl, h1, rs⟩ := hp.sq
    exact .inr (.inl ⟨a, xs, rfl, h1, fresh_lst m3 (rs.cut i j) P4⟩)
  | str t =>
    have hx := hp.str_inv
    subst hx
    have P4 : Post F X.K (VR X.K) (wx EC W σ) R3 ρ3 ((if SW.okN t.length then pure (Val.v (.str (SW.cut t i j))) else SW.no : M Val) μ3) Q := P4
    by_cases hz : SW.okN t.length = true
    · rw [if_pos hz] at P4
      refine .inr (.inr ⟨toS t, rfl, by rw [toS_len]; exact okN_le hz, ?_⟩)
      have : cutS (toS t) i j = toS (SW.cut t i j) := by
        unfold cutS SW.cut
        rw [toS_len]
        have : (toS t).cps.toList = t := by simp [toS]
        rw [this]; rfl
      rw [this]
      exact here_v m3 P4 (.str _)
    · rw [if_neg hz] at P4; exact P4.elim
  | _ => exact P4.elim
/-! d == {} -/
def rEmp : R2 := fun x y H Q => ∃ a b ks, x = .ref a ∧ y = .ref b ∧ Rd H a (.dK ks) ∧ H b = some (.dK []) ∧ Q (.bl ks.isEmpty) H
theorem op_emp (hu : X.A.units < cLine) : OpR X (compareOp .Eq) rEmp := by
  intro pins s σ H x y v u Q I rx ry h
  obtain ⟨a, b, ks, rfl, rfl, ea, eb, q⟩ := h
  obtain rfl : v = Value.ref a := rx
  obtain rfl : u = Value.ref b := ry
  obtain ⟨_, ya, va, ra, da⟩ := dk_rd I.hok ea
  obtain ⟨_, yb, vb, rb, db⟩ := dk_of I.hok eb
  cases rb
  cases ra with
  | nil => exact PySem.W.keq_eq (knd := mixKind X.prog X.w) (r := true) ya yb da db hu (fun _ => .nil) (fin_bl I q rfl)
  | cons r t => exact PySem.W.keq_eq (knd := mixKind X.prog X.w) (r := true) ya yb da db hu (fun e => absurd e (by simp)) (fin_bl I q rfl)
def gEmp (ga : LF Val) : LF Val := fun l => do
  let x ← ga l
  fun μ => match SW.dicAt x μ with
    | some kvs => .ok (Val.v (.bl kvs.isEmpty)) μ
    | none => .no
theorem ev_emp {p2 : Pos} (hu : X.A.units + 100 < cLine) (ha : PE X a (liftE X.K EC W ga)) : PE X (.Compare a [.Eq] [.Dict [] [] p2] pos) (liftE X.K EC W (gEmp ga)) := by
  refine PE.imp (pe_cmpR (op_emp (by omega)) ha (pe_dnewK (pos := p2)) rfl) fun σ H Q h => ?_
  refine lift_bind h fun F R ρ l μ H1 v x m s r P => ?_
  intro p hp
  cases e : SW.dicAt v μ with
  | none => rw [e] at P; exact P.elim
  | some kvs =>
    rw [e] at P
    obtain ⟨a, ks, rfl, h1, h2⟩ := dicAt_some m r e
    refine ⟨a, p, ks, rfl, rfl, Rd.mono (Sub.new hp) h1, upd_same, ?_⟩
    have hk : ks.isEmpty = kvs.isEmpty := by cases h2 <;> rfl
    rw [hk]
    exact here_v (m.heap (Sub.new hp)) P (.bl _)
end
end SWS
end
section
set_option maxRecDepth 100000
/-! Order, sorting. -/
namespace SWS
open PySem PySem.Spec PyProof.Rows L2
open SW (PV Val MO Ky Mem Res M E OF It Cn Pat Fl view flat flats ofO bin2)

theorem ltS_lt : ∀ s t : List Nat, SW.ltS s t = decide (s < t)
  | [], [] => by simp [SW.ltS]
  | [], y :: ys => by simp [SW.ltS]
  | x :: xs, [] => by simp [SW.ltS]
  | x :: xs, y :: ys => by
    rw [SW.ltS]
    by_cases h : x = y
    · rw [if_pos h, ltS_lt xs ys]; simp [h, List.cons_lt_cons_iff]
    · rw [if_neg h]; simp [h, List.cons_lt_cons_iff]
theorem toS_list (s : List Nat) : (toS s).cps.toList = s := by simp [toS]
mutual
theorem alk_alike : ∀ (p q : PV) (n : Nat), SW.alk n p q = true → PySem.W.alike (toD p) (toD q) = true
  | .non, q, n, h => by simp [SW.alk] at h
  | .bl a, q, n, h => by simp [SW.alk] at h
  | .int i, q, n, h => by cases q <;> simp [SW.alk] at h; simp [toD, PySem.W.alike]
  | .str i, q, n, h => by cases q <;> simp [SW.alk] at h; simp [toD, PySem.W.alike]
  | .tup xs, q, 0, h => by cases q <;> simp [SW.alk] at h
  | .tup xs, q, n + 1, h => by
    cases q <;> simp [SW.alk] at h
    simp only [toD, PySem.W.alike]
    exact alks_alike xs _ n h
  | .lst xs, q, 0, h => by cases q <;> simp [SW.alk] at h
  | .lst xs, q, n + 1, h => by
    cases q <;> simp [SW.alk] at h
    simp only [toD, PySem.W.alike]
    exact alks_alike xs _ n h
theorem alks_alike : ∀ (ps qs : List PV) (n : Nat), SW.alks n ps qs = true → PySem.W.alikeAll (toDs ps) (toDs qs) = true
  | [], qs, n, h => by simp [toDs, PySem.W.alikeAll]
  | p :: ps, [], n, h => by simp [toDs, PySem.W.alikeAll]
  | p :: ps, q :: qs, n, h => by
    simp only [SW.alks, Bool.and_eq_true] at h
    simp only [toDs, PySem.W.alikeAll, alk_alike p q n h.1, alks_alike ps qs n h.2, Bool.and_self]
end
theorem rl_nil : lexLt PyProof.Rows.itemOrd (PySem.W.keyToksAll []) (PySem.W.keyToksAll []) = false := PyProof.Rows.lex_irrefl _
mutual
theorem ltv_toD : ∀ (p q : PV) (n : Nat), SW.alk n p q = true → SW.ltv p q = PySem.W.dataLt (toD p) (toD q)
  | .non, q, n, h => by simp [SW.alk] at h
  | .bl a, q, n, h => by simp [SW.alk] at h
  | .int i, q, n, h => by
    cases q <;> simp [SW.alk] at h
    rw [toD, toD, PySem.W.dataLt_int]; rfl
  | .str i, q, n, h => by
    cases q <;> simp [SW.alk] at h
    rw [toD, toD, PySem.W.dataLt_str, toS_list, toS_list, SW.ltv, ltS_lt]
  | .tup xs, q, 0, h => by cases q <;> simp [SW.alk] at h
  | .tup xs, q, n + 1, h => by
    cases q <;> simp [SW.alk] at h
    rw [toD, toD, PySem.W.dataLt_tuple, SW.ltv]
    exact ltvs_toD xs _ n h
  | .lst xs, q, 0, h => by cases q <;> simp [SW.alk] at h
  | .lst xs, q, n + 1, h => by
    cases q <;> simp [SW.alk] at h
    rw [toD, toD, PySem.W.dataLt_list, SW.ltv]
    exact ltvs_toD xs _ n h
theorem ltvs_toD : ∀ (ps qs : List PV) (n : Nat), SW.alks n ps qs = true → SW.ltvs ps qs = lexLt PyProof.Rows.itemOrd (PySem.W.keyToksAll (toDs ps)) (PySem.W.keyToksAll (toDs qs))
  | [], [], n, h => by rw [toDs, rl_nil]; rfl
  | [], q :: qs, n, h => by
    rw [toDs, toDs, PySem.W.toks_all_cons]
    simp only [PySem.W.keyToksAll]
    rw [PyProof.Rows.lex_diff (O := PyProof.Rows.itemOrd) (by simp)]
    rfl
  | p :: ps, [], n, h => by
    rw [toDs, toDs, PySem.W.toks_all_cons]
    simp only [PySem.W.keyToksAll]
    rw [PyProof.Rows.lex_diff (O := PyProof.Rows.itemOrd) (by simp)]
    rfl
  | p :: ps, q :: qs, n, h => by
    simp only [SW.alks, Bool.and_eq_true] at h
    rw [toDs, toDs, PySem.W.dataLt_cons (alk_alike p q n h.1), eqv_toD, SW.ltvs, ltv_toD p q n h.1, ltvs_toD ps qs n h.2]
end
/-! ### insertion sort -/
def le (p q : PV) : Bool := PySem.W.dataLe false toD p q
theorem le_total : PySem.W.TotalLe le := PySem.W.sortLe_total (PyProof.Rows.listOrd PyProof.Rows.itemOrd) false fun b => PySem.W.keyToks (toD b)
theorem le_eq (p q : PV) : le p q = !PySem.W.dataLt (toD q) (toD p) := rfl
def insg (x : PV) : List PV → List PV
  | [] => [x]
  | y :: ys => if le x y then x :: y :: ys else y :: insg x ys
def isg : List PV → List PV
  | [] => []
  | x :: xs => insg x (isg xs)
theorem insg_mem {x z : PV} : ∀ {ys : List PV}, z ∈ insg x ys → z = x ∨ z ∈ ys
  | [], h => by simp [insg] at h; exact .inl h
  | y :: ys, h => by
    unfold insg at h
    split at h
    · simpa using h
    · rcases List.mem_cons.mp h with rfl | h
      · exact .inr (by simp)
      · rcases insg_mem h with h | h
        · exact .inl h
        · exact .inr (List.mem_cons_of_mem _ h)
theorem isg_mem {z : PV} : ∀ {xs : List PV}, z ∈ isg xs → z ∈ xs
  | [], h => h
  | x :: xs, h => by
    rcases insg_mem h with rfl | h
    · simp
    · exact List.mem_cons_of_mem _ (isg_mem h)
theorem insg_sorted (x : PV) : ∀ {ys : List PV}, ys.Pairwise (fun a b => le a b = true) → (insg x ys).Pairwise (fun a b => le a b = true)
  | [], _ => by simp [insg]
  | y :: ys, h => by
    unfold insg
    have hc := List.pairwise_cons.mp h
    split
    · rename_i hx
      refine List.pairwise_cons.mpr ⟨fun b hb => ?_, h⟩
      rcases List.mem_cons.mp hb with rfl | hb
      · exact hx
      · exact le_total.trans _ _ _ hx (hc.1 b hb)
    · rename_i hx
      refine List.pairwise_cons.mpr ⟨fun b hb => ?_, insg_sorted x hc.2⟩
      rcases insg_mem hb with rfl | hb
      · exact (le_total.total b y).resolve_left hx
      · exact hc.1 b hb
theorem isg_sorted : ∀ xs : List PV, (isg xs).Pairwise (fun a b => le a b = true)
  | [] => .nil
  | x :: xs => insg_sorted x (isg_sorted xs)
theorem insg_filter (c x : PV) : ∀ {ys : List PV}, ys.Pairwise (fun a b => le a b = true) → (insg x ys).filter (PySem.W.sameRank le c) = (x :: ys).filter (PySem.W.sameRank le c)
  | [], _ => rfl
  | y :: ys, h => by
    unfold insg
    split
    · rfl
    · rename_i hx
      have ih := insg_filter c x (List.pairwise_cons.mp h).2
      rw [List.filter_cons, ih]
      by_cases h1 : PySem.W.sameRank le c x = true
      · by_cases h2 : PySem.W.sameRank le c y = true
        · exfalso
          unfold PySem.W.sameRank at h1 h2
          simp only [Bool.and_eq_true] at h1 h2
          exact hx (le_total.trans _ _ _ h1.2 h2.1)
        · simp [List.filter_cons, h1, h2]
      · by_cases h2 : PySem.W.sameRank le c y = true
        · simp [List.filter_cons, h1, h2]
        · simp [List.filter_cons, h1, h2]
theorem isg_filter (c : PV) : ∀ xs : List PV, (isg xs).filter (PySem.W.sameRank le c) = xs.filter (PySem.W.sameRank le c)
  | [] => rfl
  | x :: xs => by
    rw [isg, insg_filter c x (isg_sorted xs), List.filter_cons, List.filter_cons, isg_filter c xs]
theorem isg_merge (xs : List PV) : isg xs = xs.mergeSort le := PySem.W.sort_unique le_total (isg_sorted xs) fun c => isg_filter c xs
theorem ins_insg {x : PV} : ∀ {ys : List PV}, (∀ y ∈ ys, SW.alk 8 y x = true) → SW.ins x ys = insg x ys
  | [], _ => rfl
  | y :: ys, h => by
    rw [SW.ins, insg, le_eq, ltv_toD y x 8 (h y (by simp)), ins_insg fun z hz => h z (by simp [hz])]
    cases PySem.W.dataLt (toD y) (toD x) <;> rfl
theorem isort_isg : ∀ {xs : List PV}, (∀ x ∈ xs, ∀ y ∈ xs, SW.alk 8 x y = true) → SW.isort xs = isg xs
  | [], _ => rfl
  | x :: xs, h => by
    have ih := isort_isg (xs := xs) fun a ha b hb => h a (by simp [ha]) b (by simp [hb])
    rw [SW.isort, isg, ih]
    exact ins_insg fun y hy => h y (by simp [isg_mem hy]) x (by simp)
theorem allAlk_inv {xs : List PV} (h : SW.allAlk xs = true) : (∀ x ∈ xs, ∀ y ∈ xs, SW.alk 8 x y = true) ∧ ∀ x ∈ xs, SW.neT x = true ∧ SW.dle 8 x = true := by
  unfold SW.allAlk at h
  rw [List.all_eq_true] at h
  refine ⟨fun x hx y hy => ?_, fun x hx => ?_⟩
  · have := h x hx
    simp only [Bool.and_eq_true] at this
    exact List.all_eq_true.mp this.2 y hy
  · have := h x hx
    simp only [Bool.and_eq_true] at this
    exact this.1
theorem allAlk_alike {xs : List PV} (h : SW.allAlk xs = true) : PySem.W.AllAlike (xs.map toD) := by
  intro d hd d' hd'
  obtain ⟨p, hp, rfl⟩ := List.mem_map.mp hd
  obtain ⟨q, hq, rfl⟩ := List.mem_map.mp hd'
  exact alk_alike p q 8 ((allAlk_inv h).1 p hp q hq)
theorem allAlk_sortable {xs : List PV} (h : SW.allAlk xs = true) : PySem.W.Sortable (xs.map toD) := by
  cases xs with
  | nil => exact .inr fun d hd => by simp at hd
  | cons x xs =>
    have h1 := allAlk_inv h
    cases x with
    | tup ps =>
      refine .inl fun d hd => ?_
      obtain ⟨p, hp, rfl⟩ := List.mem_map.mp hd
      have a := h1.1 (.tup ps) (by simp) p hp
      have b := (h1.2 p hp).1
      cases p <;> simp [SW.alk] at a
      rename_i qs
      cases qs with
      | nil => simp [SW.neT] at b
      | cons q qs => exact ⟨toD q, toDs qs, by rw [toD, toDs]⟩
    | _ =>
      refine .inr fun d hd => ?_
      obtain ⟨p, hp, rfl⟩ := List.mem_map.mp hd
      have a := h1.1 _ List.mem_cons_self p hp
      cases p <;> simp [SW.alk] at a <;> simp [toD]
end SWS
end
section
set_option maxRecDepth 100000
namespace SWS
open PySem PySem.Spec PyProof.Rows L2
/-! ### min, max of two texts -/
def ltTx (v u : Value) : Bool := match v, u with
  | .str x _, .str y _ => decide (x.cps.toList < y.cps.toList)
  | _, _ => false
section
variable {prog : Program} {w : World} {A : Around} {E : Value → Shared → Prop} {s : Shared} {Q : Value → Shared → Prop} {x y : Str} {t u : Tok}
theorem lt_tx (hu : A.units < cLine) (h : Q (.bool (decide (x.cps.toList < y.cps.toList))) s) : wpAny (model prog w) A (richCompare .Lt (.str x t) (.str y u)) Q E s := by
  refine PySem.W.rcLt_alike (.str x) (.str y) A s _ _ _ _ (.str _ _) (.str _ _) rfl (fun h => by cases h) ?_ prog w E Q ?_
  · show A.units + min 0 0 < _
    simpa using hu
  · rw [PySem.W.dataLt_str]; exact h
theorem gt_tx (hu : A.units < cLine) (h : Q (.bool (decide (y.cps.toList < x.cps.toList))) s) : wpAny (model prog w) A (richCompare .Gt (.str x t) (.str y u)) Q E s := by
  refine PySem.W.rcGt_alike (.str x) (.str y) A s _ _ _ _ (.str _ _) (.str _ _) rfl (fun h => by cases h) ?_ prog w E Q ?_
  · show A.units + min 0 0 < _
    simpa using hu
  · rw [PySem.W.dataLt_str]; exact h
theorem two_at {i : Nat} {v : Value} {a b : Value} (h : (#[a, b] : Array Value)[i]? = some v) : v = a ∨ v = b := by
  have := Array.mem_of_getElem? h
  simpa using this
theorem cmpOf_ltTx {a b : Value} (ha : a = .str x t) (hb : b = .str y u) (hu : A.units < cLine) :
    CmpOf prog w A .Lt (fun i v => (#[a, b] : Array Value)[i]? = some v) (fun i j => ltTx ((#[a, b] : Array Value).getD i .none) ((#[a, b] : Array Value).getD j .none)) := fun i j vi vj s Q E hi hj h => by
  have e1 : (#[a, b] : Array Value).getD i .none = vi := by simp [Array.getD_eq_getD_getElem?, hi]
  have e2 : (#[a, b] : Array Value).getD j .none = vj := by simp [Array.getD_eq_getD_getElem?, hj]
  simp only [e1, e2] at h
  subst ha hb
  rcases two_at hi with rfl | rfl <;> rcases two_at hj with rfl | rfl <;> exact lt_tx hu h
theorem cmpOf_gtTx {a b : Value} (ha : a = .str x t) (hb : b = .str y u) (hu : A.units < cLine) :
    CmpOf prog w A .Gt (fun i v => (#[a, b] : Array Value)[i]? = some v) (fun i j => ltTx ((#[a, b] : Array Value).getD j .none) ((#[a, b] : Array Value).getD i .none)) := fun i j vi vj s Q E hi hj h => by
  have e1 : (#[a, b] : Array Value).getD i .none = vi := by simp [Array.getD_eq_getD_getElem?, hi]
  have e2 : (#[a, b] : Array Value).getD j .none = vj := by simp [Array.getD_eq_getD_getElem?, hj]
  simp only [e1, e2] at h
  subst ha hb
  rcases two_at hi with rfl | rfl <;> rcases two_at hj with rfl | rfl <;> exact gt_tx hu h
theorem min_two_tx (hh : A.handled = none) (hu : A.units + 1 < cLine)
    (h : ∀ h' tk, (∀ c o, s.heap.get? c = some o → h'.get? c = some o) → Q (if decide (y.cps.toList < x.cps.toList) = true then .str y u else .str x t) { s with heap := h', toks := tk }) :
    wpAny (model prog w) A (call (.builtin "min") [.str x t, .str y u]) Q E s := by
  generalize ea : Value.str x t = a
  generalize eb : Value.str y u = b
  rw [ea, eb] at h
  have hT : (s.heap.push { cls := .type "tuple", data := .seq #[a, b] }).IsTuple s.heap.objs.size #[a, b] := ⟨_, Heap.get?_push_size _ rfl, rfl, 0, rfl⟩
  refine call_min_two (wpAny_pyIter_tuple hT ?_)
  have hsz : (s.heap.push { cls := .type "tuple", data := .seq #[a, b] }).objs.size = s.heap.objs.size + 1 := Heap.size_push ..
  refine ⟨_, [_, s.heap.objs.size], [_], _, _, _, _, rfl, Walks.tuple (A := A.in1) hh _ s.heap.objs.size (by rw [hsz]; exact Nat.ne_of_lt (Nat.lt_succ_self _)) #[a, b],
    ⟨⟨_, Heap.get?_push_size _ rfl, rfl, rfl⟩, hT.push _⟩, fun c hc => ?_, by simp, cmpOf_ltTx (A := A.in1) ea.symm eb.symm hu, fun v h' tk hP hk => ?_⟩
  · show c < ((s.heap.push _).push _).objs.size
    rw [Heap.size_push, hsz]
    rcases List.mem_cons.mp hc with rfl | hc
    · rw [hsz]; exact Nat.lt_succ_self _
    · rcases List.mem_cons.mp hc with rfl | hc
      · exact Nat.lt_succ_of_lt (Nat.lt_succ_self _)
      · cases hc
  · have hold : ∀ c o, s.heap.get? c = some o → h'.get? c = some o := fun c o e => by
      refine hk c o (fun hm => ?_) (Heap.get?_push_of_some _ (Heap.get?_push_of_some _ e))
      rcases List.mem_cons.mp hm with e1 | hm
      · have := Heap.lt_size e; rw [e1, hsz] at this; exact Nat.lt_irrefl _ (Nat.lt_of_succ_lt this)
      · cases hm
    have := h h' tk hold
    have hc : ltTx b a = decide (y.cps.toList < x.cps.toList) := by subst ea eb; rfl
    rw [← hc] at this
    have hv : v = if ltTx b a then b else a := by
      cases hc : ltTx b a <;> simp [argBest, hc] at hP <;> simp [hP]
    rw [hv]; exact this
theorem max_two_tx (hh : A.handled = none) (hu : A.units + 1 < cLine)
    (h : ∀ h' tk, (∀ c o, s.heap.get? c = some o → h'.get? c = some o) → Q (if decide (x.cps.toList < y.cps.toList) = true then .str y u else .str x t) { s with heap := h', toks := tk }) :
    wpAny (model prog w) A (call (.builtin "max") [.str x t, .str y u]) Q E s := by
  generalize ea : Value.str x t = a
  generalize eb : Value.str y u = b
  rw [ea, eb] at h
  have hT : (s.heap.push { cls := .type "tuple", data := .seq #[a, b] }).IsTuple s.heap.objs.size #[a, b] := ⟨_, Heap.get?_push_size _ rfl, rfl, 0, rfl⟩
  refine call_max_two (wpAny_pyIter_tuple hT ?_)
  have hsz : (s.heap.push { cls := .type "tuple", data := .seq #[a, b] }).objs.size = s.heap.objs.size + 1 := Heap.size_push ..
  refine ⟨_, [_, s.heap.objs.size], [_], _, _, _, _, rfl, Walks.tuple (A := A.in1) hh _ s.heap.objs.size (by rw [hsz]; exact Nat.ne_of_lt (Nat.lt_succ_self _)) #[a, b],
    ⟨⟨_, Heap.get?_push_size _ rfl, rfl, rfl⟩, hT.push _⟩, fun c hc => ?_, by simp, cmpOf_gtTx (A := A.in1) ea.symm eb.symm hu, fun v h' tk hP hk => ?_⟩
  · show c < ((s.heap.push _).push _).objs.size
    rw [Heap.size_push, hsz]
    rcases List.mem_cons.mp hc with rfl | hc
    · rw [hsz]; exact Nat.lt_succ_self _
    · rcases List.mem_cons.mp hc with rfl | hc
      · exact Nat.lt_succ_of_lt (Nat.lt_succ_self _)
      · cases hc
  · have hold : ∀ c o, s.heap.get? c = some o → h'.get? c = some o := fun c o e => by
      refine hk c o (fun hm => ?_) (Heap.get?_push_of_some _ (Heap.get?_push_of_some _ e))
      rcases List.mem_cons.mp hm with e1 | hm
      · have := Heap.lt_size e; rw [e1, hsz] at this; exact Nat.lt_irrefl _ (Nat.lt_of_succ_lt this)
      · cases hm
    have := h h' tk hold
    have hc : ltTx a b = decide (x.cps.toList < y.cps.toList) := by subst ea eb; rfl
    rw [← hc] at this
    have hv : v = if ltTx a b then b else a := by
      cases hc : ltTx a b <;> simp [argBest, hc] at hP <;> simp [hP]
    rw [hv]; exact this
end
section
variable {X : Cx}
theorem cr_min2t (hc : X.calm = true) (hu : X.A.units + 100 < cLine) : CallR X (.builtin "min") (fun xs H Q => ∃ a b : List Nat, xs = [.str (toS a), .str (toS b)] ∧ Q (.str (toS (if SW.ltS b a = true then b else a))) H) := by
  intro pins s σ H xs us Q I r h
  obtain ⟨a, b, rfl, q⟩ := h
  obtain ⟨u, w', rfl, ⟨t, rfl⟩, ⟨t', rfl⟩⟩ := vals2 r
  refine min_two_tx (I.ok.hd hc) (by omega) fun h' tk k => ⟨_, H, I.kept k, ?_, q⟩
  rw [ltS_lt]
  show RelV _ (if decide (b < a) = true then _ else _)
  split
  · exact ⟨_, rfl⟩
  · exact ⟨_, rfl⟩
theorem cr_max2t (hc : X.calm = true) (hu : X.A.units + 100 < cLine) : CallR X (.builtin "max") (fun xs H Q => ∃ a b : List Nat, xs = [.str (toS a), .str (toS b)] ∧ Q (.str (toS (if SW.ltS a b = true then b else a))) H) := by
  intro pins s σ H xs us Q I r h
  obtain ⟨a, b, rfl, q⟩ := h
  obtain ⟨u, w', rfl, ⟨t, rfl⟩, ⟨t', rfl⟩⟩ := vals2 r
  refine max_two_tx (I.ok.hd hc) (by omega) fun h' tk k => ⟨_, H, I.kept k, ?_, q⟩
  rw [ltS_lt]
  show RelV _ (if decide (a < b) = true then _ else _)
  split
  · exact ⟨_, rfl⟩
  · exact ⟨_, rfl⟩
end
end SWS
end
section
set_option maxRecDepth 100000
/-! Built-in functions. -/
namespace SWS
open PySem PySem.Spec PyProof.Rows L2
open SW (PV Val MO Ky Mem Res M E OF It Cn Pat Fl view flat flats ofO bin2 Bi)

/-! ### data, the other way -/
mutual
theorem toD_inj : ∀ (p q : PV), toD p = toD q → p = q
  | .non, q, h => by cases q <;> simp [toD] at h; rfl
  | .bl a, q, h => by cases q <;> simp [toD] at h; subst h; rfl
  | .int a, q, h => by cases q <;> simp [toD] at h; subst h; rfl
  | .str a, q, h => by cases q <;> simp [toD] at h; rw [toS_inj.mp h]
  | .tup a, q, h => by cases q <;> simp [toD] at h; rw [toDs_inj a _ h]
  | .lst a, q, h => by cases q <;> simp [toD] at h; rw [toDs_inj a _ h]
theorem toDs_inj : ∀ (ps qs : List PV), toDs ps = toDs qs → ps = qs
  | [], qs, h => by cases qs <;> simp [toDs] at h; rfl
  | p :: ps, qs, h => by
    cases qs with
    | nil => simp [toDs] at h
    | cons q qs =>
      simp only [toDs, List.cons.injEq] at h
      rw [toD_inj p q h.1, toDs_inj ps qs h.2]
end
theorem best_mem (lt : PV → PV → Bool) : ∀ (xs : List PV) (b : PV), SW.best lt b xs = b ∨ SW.best lt b xs ∈ xs
  | [], b => .inl rfl
  | y :: ys, b => by
    rw [SW.best]
    split
    · rcases best_mem lt ys y with h | h
      · exact .inr (by rw [h]; simp)
      · exact .inr (by simp [h])
    · rcases best_mem lt ys b with h | h
      · exact .inl h
      · exact .inr (by simp [h])
theorem minD_best {all : List PV} (ha : ∀ x ∈ all, ∀ y ∈ all, SW.alk 8 x y = true) : ∀ (xs : List PV) (b : PV), b ∈ all → (∀ x ∈ xs, x ∈ all) → PySem.W.minD (toD b) (toDs xs) = toD (SW.best SW.ltv b xs)
  | [], b, _, _ => rfl
  | y :: ys, b, hb, hx => by
    have hy := hx y (by simp)
    rw [SW.best, ltv_toD y b 8 (ha y hy b hb)]
    have ih := minD_best ha ys
    unfold PySem.W.minD at ih ⊢
    rw [toDs, List.foldl_cons]
    cases e : PySem.W.dataLt (toD y) (toD b) with
    | true => exact ih y hy fun x hx' => hx x (by simp [hx'])
    | false => exact ih b hb fun x hx' => hx x (by simp [hx'])
theorem maxD_best {all : List PV} (ha : ∀ x ∈ all, ∀ y ∈ all, SW.alk 8 x y = true) : ∀ (xs : List PV) (b : PV), b ∈ all → (∀ x ∈ xs, x ∈ all) → PySem.W.maxD (toD b) (toDs xs) = toD (SW.best (fun a b => SW.ltv b a) b xs)
  | [], b, _, _ => rfl
  | y :: ys, b, hb, hx => by
    have hy := hx y (by simp)
    rw [SW.best, ltv_toD b y 8 (ha b hb y hy)]
    have ih := maxD_best ha ys
    unfold PySem.W.maxD at ih ⊢
    rw [toDs, List.foldl_cons]
    cases e : PySem.W.dataLt (toD b) (toD y) with
    | true => exact ih y hy fun x hx' => hx x (by simp [hx'])
    | false => exact ih b hb fun x hx' => hx x (by simp [hx'])
theorem allAlk_AA {xs : List PV} (h : SW.allAlk xs = true) : PySem.W.AlikeAll (toDs xs) := by
  rw [toDs_map]
  refine ⟨fun a ha b hb => allAlk_alike h a ha b hb, fun a ha => ?_⟩
  obtain ⟨p, hp, rfl⟩ := List.mem_map.mp ha
  have := (allAlk_inv h).1 p hp p hp
  cases p <;> simp [SW.alk] at this <;> simp [toD]
theorem allAlk_depth {xs : List PV} (h : SW.allAlk xs = true) : PyData.depthAll (toDs xs) ≤ 8 := by
  have h2 := (allAlk_inv h).2
  have : ∀ ys : List PV, (∀ y ∈ ys, SW.dle 8 y = true) → PyData.depthAll (toDs ys) ≤ 8 := by
    intro ys
    induction ys with
    | nil => intro _; exact Nat.zero_le _
    | cons y ys ih =>
      intro hy
      simp only [toDs, PyData.depthAll]
      have h1 := depth_le y 8 (hy y (by simp))
      have h3 := ih fun z hz => hy z (by simp [hz])
      omega
  exact this xs fun y hy => (h2 y hy).2
theorem vals_getR {xs : List V} {us : List Value} (r : Vals xs us) {i : Nat} {u : Value} (h : us[i]? = some u) : ∃ x, xs[i]? = some x ∧ RelV x u := by
  have hl := r.length
  obtain ⟨hi, _⟩ := List.getElem?_eq_some_iff.mp h
  obtain ⟨u', e, q⟩ := r.get (i := i) (x := xs[i]'(by omega)) (List.getElem?_eq_getElem (by omega))
  rw [h] at e; cases e
  exact ⟨_, List.getElem?_eq_getElem (by omega), q⟩
/-! ### min, max of a list -/
def rBest (K : Fg) (lt : PV → PV → Bool) : List V → Hp → VK → Prop := fun xs H Q => ∃ (a : Addr) (p : PV) (ps : List PV) (vs : List V), xs = [.ref a] ∧ (SqL K H a vs ∨ SqT K H a vs) ∧ Reps K H (p :: ps) vs ∧ SW.allAlk (p :: ps) = true ∧
  ∀ (i : Nat) (y : V), vs[i]? = some y → (p :: ps)[i]? = some (SW.best lt p ps) → Q y H
section
variable {X : Cx}
theorem best_fin {pins : List (Addr × Obj)} {σ : L2.St} {H : Hp} {s : Shared} {lt : PV → PV → Bool} {p : PV} {ps : List PV} {vs : List V} {its : List Value} {Q : VK} (I : Inv X pins σ H s) (hr : Reps X.K H (p :: ps) vs) (ha : SW.allAlk (p :: ps) = true) (rv : Vals vs its)
    (q : ∀ (i : Nat) (y : V), vs[i]? = some y → (p :: ps)[i]? = some (SW.best lt p ps) → Q y H) {i : Nat} {v : Value} {h' : Heap} {tk : Nat} {bs : List Addr} (hi : its.toArray[i]? = some v) (r : Reads h' v (toD (SW.best lt p ps)) bs) (k : ∀ b o, s.heap.get? b = some o → h'.get? b = some o) :
    EP X pins σ Q v { s with heap := h', toks := tk } := by
  have hi' : its[i]? = some v := by simpa using hi
  obtain ⟨y, hy, ry⟩ := vals_getR rv hi'
  obtain ⟨pp, hp, rp⟩ := hr.get' hy
  obtain ⟨as, r2⟩ := Rep.reads I rp ry
  have r3 := PySem.W.reads_keeps k r2
  have hm : pp ∈ p :: ps := List.mem_of_getElem? hp
  have hb : SW.best lt p ps ∈ p :: ps := by
    rcases best_mem lt ps p with h | h
    · rw [h]; simp
    · simp [h]
  have e := toD_inj _ _ (PySem.W.alike_unique _ _ _ _ _ (alk_alike pp _ 8 ((allAlk_inv ha).1 pp hm _ hb)) r3 r)
  subst e
  exact ⟨y, H, I.kept k, ry, q i y hy hp⟩
theorem cr_min1 (hc : X.calm = true) (hu : X.A.units + 100 < cLine) : CallR X (.builtin "min") (rBest X.K SW.ltv) := by
  intro pins s σ H xs us Q I r h
  obtain ⟨a, p, ps, vs, rfl, hl, hr, ha, q⟩ := h
  have hd := allAlk_depth ha
  have hA := allAlk_AA ha
  rw [Vals.ref1 r]
  rcases hl with hl | hl
  · obtain ⟨its, rv, pl, _⟩ := I.list hl
    obtain ⟨as, rr⟩ := Reps.reads I hr rv
    rw [toDs] at rr hA hd
    refine PySem.W.min_list_data (I.ok.hd hc) pl.isList (by simpa using rr) hA (by omega) fun i v h' tk bs hi r k => ?_
    rw [minD_best (allAlk_inv ha).1 ps p (by simp) (fun x hx => by simp [hx])] at r
    exact best_fin I hr ha rv q hi r k
  · obtain ⟨its, rv, pl, _⟩ := I.tuple hl
    obtain ⟨as, rr⟩ := Reps.reads I hr rv
    rw [toDs] at rr hA hd
    refine PySem.W.min_tuple_data (I.ok.hd hc) (show s.heap.IsTuple _ _ from pl) (by simpa using rr) hA (by omega) fun i v h' tk bs hi r k => ?_
    rw [minD_best (allAlk_inv ha).1 ps p (by simp) (fun x hx => by simp [hx])] at r
    exact best_fin I hr ha rv q hi r k
theorem cr_max1 (hc : X.calm = true) (hu : X.A.units + 100 < cLine) : CallR X (.builtin "max") (rBest X.K fun a b => SW.ltv b a) := by
  intro pins s σ H xs us Q I r h
  obtain ⟨a, p, ps, vs, rfl, hl, hr, ha, q⟩ := h
  have hd := allAlk_depth ha
  have hA := allAlk_AA ha
  rw [Vals.ref1 r]
  rcases hl with hl | hl
  · obtain ⟨its, rv, pl, _⟩ := I.list hl
    obtain ⟨as, rr⟩ := Reps.reads I hr rv
    rw [toDs] at rr hA hd
    refine PySem.W.max_list_data (I.ok.hd hc) pl.isList (by simpa using rr) hA (by omega) fun i v h' tk bs hi r k => ?_
    rw [maxD_best (allAlk_inv ha).1 ps p (by simp) (fun x hx => by simp [hx])] at r
    exact best_fin I hr ha rv q hi r k
  · obtain ⟨its, rv, pl, _⟩ := I.tuple hl
    obtain ⟨as, rr⟩ := Reps.reads I hr rv
    rw [toDs] at rr hA hd
    refine PySem.W.max_tuple_data (I.ok.hd hc) (show s.heap.IsTuple _ _ from pl) (by simpa using rr) hA (by omega) fun i v h' tk bs hi r k => ?_
    rw [maxD_best (allAlk_inv ha).1 ps p (by simp) (fun x hx => by simp [hx])] at r
    exact best_fin I hr ha rv q hi r k
/-! ### sorted -/
def rSort1 (K : Fg) : List V → Hp → VK → Prop := fun xs H Q => ∃ a ps vs, xs = [.ref a] ∧ SqL K H a vs ∧ Reps K H ps vs ∧ SW.allAlk ps = true ∧
  ∀ ys l, ys.length = vs.length → (∀ R, Reps K R ps vs → Reps K R (SW.isort ps) ys) → H l = none → Q (.ref l) (upd H l (.lst ys))
theorem reps_zip {K : Fg} {R : Hp} : ∀ {ps : List PV} {vs : List V}, Reps K R ps vs → ∀ b ∈ vs.zip ps, Rep K R b.2 b.1
  | [], _, h, b, hb => by cases h; simp at hb
  | p :: ps, _, h, b, hb => by
    obtain ⟨y, ys, rfl, h1, h2⟩ := h.cons_inv
    rw [List.zip_cons_cons] at hb
    rcases List.mem_cons.mp hb with rfl | hb
    · exact h1
    · exact reps_zip h2 b hb
theorem reps_of {K : Fg} {R : Hp} : ∀ {bs : List (V × PV)}, (∀ b ∈ bs, Rep K R b.2 b.1) → Reps K R (bs.map (·.2)) (bs.map (·.1))
  | [], _ => .nil
  | b :: bs, h => .cons (h b (by simp)) (reps_of fun c hc => h c (by simp [hc]))
theorem zip_fst {α β : Type} : ∀ {xs : List α} {ys : List β}, xs.length = ys.length → (xs.zip ys).map (·.1) = xs
  | [], _, _ => rfl
  | _ :: _, [], h => by simp at h
  | x :: xs, y :: ys, h => by simp only [List.zip_cons_cons, List.map_cons]; rw [zip_fst (by simpa using h)]
theorem zip_snd {α β : Type} : ∀ {xs : List α} {ys : List β}, xs.length = ys.length → (xs.zip ys).map (·.2) = ys
  | [], [], _ => rfl
  | [], _ :: _, h => by simp at h
  | _ :: _, [], h => by simp at h
  | x :: xs, y :: ys, h => by simp only [List.zip_cons_cons, List.map_cons]; rw [zip_snd (by simpa using h)]
theorem each_zip {pins : List (Addr × Obj)} {σ : L2.St} {H : Hp} {s : Shared} (I : Inv X pins σ H s) : ∀ {ps : List PV} {vs : List V} {its : List Value}, Reps X.K H ps vs → Vals vs its → PySem.W.EachIs (fun (v : Value) (b : V × PV) => RelV b.1 v) its (vs.zip ps) ∧
    PySem.W.EachIs (fun (v : Value) (b : V × PV) => ∃ as, Reads s.heap v (toD b.2) as) its (vs.zip ps)
  | [], _, _, h, r => by cases h; cases r; exact ⟨.nil, .nil⟩
  | p :: ps, _, _, h, r => by
    obtain ⟨y, ys, rfl, h1, h2⟩ := h.cons_inv
    cases r with
    | cons r1 r2 =>
      obtain ⟨e1, e2⟩ := each_zip I h2 r2
      exact ⟨.cons r1 e1, .cons (Rep.reads I h1 r1) e2⟩
theorem each_vals : ∀ {out : List Value} {bs : List (V × PV)}, PySem.W.EachIs (fun (v : Value) (b : V × PV) => RelV b.1 v) out bs → Vals (bs.map (·.1)) out
  | _, _, .nil => .nil
  | _, _, .cons r t => .cons r (each_vals t)
theorem cr_sort1 (hu : X.A.units + 100 < cLine) : CallR X (.builtin "sorted") (rSort1 X.K) := by
  intro pins s σ H xs us Q I r h
  obtain ⟨a, ps, vs, rfl, hl, hr, ha, q⟩ := h
  obtain ⟨its, rv, pl, hz⟩ := I.list hl
  rw [Vals.ref1 r]
  obtain ⟨e1, e2⟩ := each_zip I hr rv
  have hlen : vs.length = ps.length := hr.length
  have hm : (vs.zip ps).map (fun b => toD b.2) = ps.map toD := by
    have := congrArg (List.map toD) (zip_snd hlen)
    rw [List.map_map] at this
    exact this
  refine PySem.W.sorted_data (enc := fun b : V × PV => toD b.2) pl.isList e1 e2 (by rw [hm]; exact allAlk_alike ha) (by rw [hm]; exact allAlk_sortable ha) (by rw [List.length_zip]; omega) (fun b hb => ?_) fun out ho heo => ?_
  · have hb' : b.2 ∈ ps := (List.of_mem_zip hb).2
    have := depth_le b.2 8 ((allAlk_inv ha).2 b.2 hb').2
    omega
  · obtain ⟨ep, he'⟩ := PyProof.Rows.sortedAll_at s.heap its out.toArray
    have hv := each_vals heo
    have hlen2 : (((vs.zip ps).mergeSort (PySem.W.dataLe false fun b => toD b.2)).map (·.1)).length = vs.length := by
      rw [List.length_map, List.length_mergeSort, List.length_zip]; omega
    refine ⟨.ref _, upd H (s.heap.objs.size + 1) (.lst _), I.laid (t' := s.toks) (fun _ _ => PyProof.Rows.sortedAll_old) (Nat.le_succ _) ⟨by rw [hlen2]; exact hz, out, ep, hv, he'⟩, rfl, q _ _ hlen2 (fun R hR => ?_) (I.hok.fresh (Nat.le_succ _))⟩
    have e3 : ((vs.zip ps).mergeSort (PySem.W.dataLe false fun b => toD b.2)).map (·.2) = SW.isort ps := by
      rw [PySem.W.sort_maps (r := PySem.W.dataLe false fun b : V × PV => toD b.2) (s := le) (fun b : V × PV => b.2) fun a _ b _ => rfl, zip_snd hlen, isort_isg (allAlk_inv ha).1, isg_merge]
    rw [← e3]
    exact reps_of fun b hb => reps_zip hR b (List.mem_mergeSort.mp hb)
/-! sorted of a tuple of ints -/
section
variable {P : Program} {w : World} {A : Around} {E : Value → Shared → Prop} {s : Shared}
theorem collect_tup {l : Addr} {vs : List Value} {R : List Value → Shared → Prop} (hl : IsTup s.heap l vs.toArray) (small : vs.length ≤ sizeLine)
    (q : R vs { s with heap := (s.heap.push (seqObj "list" #[] 0)).update s.heap.objs.size (Obj.mapSeq (· ++ vs.toArray)) }) :
    wpAny (model P w) A (collect (.ref l)) R E s := by
  obtain ⟨ob, look, cl, n, da⟩ := id hl
  unfold collect
  refine wpAny_bind (wpAny_runValue (codeAny_builtin entry_proto_collect' ?_))
  show wpAny _ _ (do again (.builtin "list.__iadd__" ⟨[← newList [], .ref l], []⟩)) _ _ s
  refine wpAny_bind (wpAny_newList (wpAny_pure ⟨Code.quiet_builtin _ (by decide +kernel), codeAny_builtin entry_list_iadd' ?_⟩))
  show wpAny _ _ (Builtin.List.listExtendWith (.ref s.heap.objs.size) (.ref l) (.ref s.heap.objs.size)) _ _ { s with heap := s.heap.push (seqObj "list" #[] 0) }
  unfold Builtin.List.listExtendWith
  have look2 : (s.heap.push (seqObj "list" #[] 0)).get? l = some ob := Heap.get?_push_of_some _ look
  refine wpAny_bind (wpAny_typeOf (T := "tuple") ⟨ob, look2, cl⟩ ?_)
  have same : (Value.type "tuple" == Value.type "tuple") = true := by rfl
  rw [if_pos (by rw [same]; simp)]
  refine wpAny_bind (listItems_at look2 da ?_)
  refine wpAny_bind (listItems_at (xs := #[]) (n := 0) (Heap.get?_push_size _ rfl) rfl ?_)
  rw [if_neg (by simp)]
  refine wpAny_bind (listUpdate_at (xs := #[]) (n := 0) (Heap.get?_push_size _ rfl) rfl ?_ (Nat.zero_le _) (by show (#[] ++ vs.toArray).size ≤ sizeLine + 1; simp only [Array.size_append, List.size_toArray, List.length_nil]; omega))
  refine wpAny_pure ?_
  show wpAny (model P w) A (do
      let o ← load s.heap.objs.size
      match o.data with
      | .seq xs _ => pure xs.toList
      | _ => unsupported "internal:collect") R E { s with heap := (s.heap.push (seqObj "list" #[] 0)).update s.heap.objs.size (Obj.mapSeq (· ++ vs.toArray)) }
  refine wpAny_bind (wpAny_load (get?_update_seq (Heap.get?_push_size _ rfl) _) ?_)
  show wpAny _ _ (pure ((#[] : Array Value) ++ vs.toArray).toList) R E _
  rw [show ((#[] : Array Value) ++ vs.toArray).toList = vs by simp]
  exact wpAny_pure q
theorem sorted_intTup {l : Addr} {vs : List Value} {is : List Int} {R : Value → Shared → Prop} (hl : IsTup s.heap l vs.toArray) (small : vs.length ≤ sizeLine) (each : PySem.W.EachIs (fun v b => ∃ k, v = Value.int b k) vs is)
    (alks : SW.allAlk (is.map PV.int) = true) (un : A.units + 100 < cLine)
    (q : ∀ out : List Value, out.length = is.length → PySem.W.EachIs (fun v b => ∃ k, v = Value.int b k) out (is.mergeSort (PySem.W.dataLe false fun b => PyData.int b)) → R (.ref (s.heap.objs.size + 1)) { s with heap := sortedAll s.heap vs out.toArray }) :
    wpAny (model P w) A (call (.builtin "sorted") [.ref l]) R E s := by
  have len : is.length = vs.length := each.length.symm
  have enc : is.map (fun b => PyData.int b) = (is.map PV.int).map toD := by rw [List.map_map]; rfl
  refine Calls.call_function_entry kind_sorted plain_sorted entry_sorted (args_sorted1 _) ?_
  unfold Builtin.«sorted»
  refine wpAny_bind (m := checkCount "sorted" 1 1 _) (wpAny_pure ?_)
  refine wpAny_bind (collect_tup hl small ?_)
  refine wpAny_bind (wpAny_newList ?_ small)
  have size : ((s.heap.push (seqObj "list" #[] 0)).update s.heap.objs.size (Obj.mapSeq (· ++ vs.toArray))).objs.size = s.heap.objs.size + 1 := by rw [Heap.size_update, size_push']
  show wpAny _ _ _ _ _ { s with heap := PySem.W.copyHeap s.heap vs }
  rw [size]
  refine wpAny_bind (wpAny_holding (PySem.W.list_sort_data (s := { s with heap := PySem.W.copyHeap s.heap vs }) (enc := fun b => PyData.int b) (PySem.W.copyHeap_at s.heap vs) each
    (each.mono fun v b ⟨k, e⟩ => ⟨[], by subst e; exact Reads.int _ _, by simp⟩) (by rw [enc]; exact allAlk_alike alks) (by rw [enc]; exact allAlk_sortable alks) (by rw [len]; exact small) (fun b _ => by
      show A.units + 1 + 1 + 0 < cLine
      omega) fun out len2 srt => ?_))
  exact wpAny_pure ⟨_, rfl, q out len2 srt⟩
end
theorem ints_each : ∀ {is : List Int} {its : List Value}, Vals (is.map V.int) its → PySem.W.EachIs (fun v b => ∃ k, v = Value.int b k) its is
  | [], _, h => by cases h; exact .nil
  | i :: is, _, h => by
    cases h with
    | cons r t =>
      obtain ⟨k, rfl⟩ := r
      exact .cons ⟨k, rfl⟩ (ints_each t)
theorem each_ints : ∀ {out : List Value} {is : List Int}, PySem.W.EachIs (fun v b => ∃ k, v = Value.int b k) out is → Vals (is.map V.int) out
  | _, _, .nil => .nil
  | _, _, .cons ⟨k, e⟩ t => .cons ⟨k, e⟩ (each_ints t)
theorem allAlk_int (is : List Int) : SW.allAlk (is.map PV.int) = true := by
  unfold SW.allAlk
  rw [List.all_eq_true]
  intro x hx
  obtain ⟨i, _, rfl⟩ := List.mem_map.mp hx
  simp only [Bool.and_eq_true]
  refine ⟨⟨rfl, rfl⟩, ?_⟩
  rw [List.all_eq_true]
  intro y hy
  obtain ⟨j, _, rfl⟩ := List.mem_map.mp hy
  rfl
def rSortI (K : Fg) : List V → Hp → VK → Prop := fun xs H Q => ∃ (a : Addr) (is : List Int), xs = [.ref a] ∧ SqT K H a (is.map V.int) ∧ ∀ (js : List Int) (l : Addr), js.map PV.int = SW.isort (is.map PV.int) → H l = none → Q (.ref l) (upd H l (.lst (js.map V.int)))
theorem cr_sortI (hu : X.A.units + 100 < cLine) : CallR X (.builtin "sorted") (rSortI X.K) := by
  intro pins s σ H xs us Q I r h
  obtain ⟨a, is, rfl, ht, q⟩ := h
  obtain ⟨its, rv, pl, hz⟩ := I.tuple ht
  rw [Vals.ref1 r]
  have each := ints_each rv
  have hz2 : its.length ≤ sizeLine := by rw [each.length]; simpa using hz
  refine sorted_intTup pl hz2 each (allAlk_int is) hu fun out len srt => ?_
  obtain ⟨ep, he⟩ := PyProof.Rows.sortedAll_at s.heap its out.toArray
  have e : (is.mergeSort (PySem.W.dataLe false fun b => PyData.int b)).map PV.int = SW.isort (is.map PV.int) := by
    rw [PySem.W.sort_maps (r := PySem.W.dataLe false fun b => PyData.int b) (s := le) PV.int fun a _ b _ => rfl, isort_isg (allAlk_inv (allAlk_int is)).1, isg_merge]
  exact ⟨.ref _, upd H (s.heap.objs.size + 1) (.lst _), I.laid (t' := s.toks) (fun _ _ => PyProof.Rows.sortedAll_old) (Nat.le_succ _) ⟨by rw [List.length_map, List.length_mergeSort]; simpa using hz, out, ep, each_ints srt, he⟩, rfl, q _ _ e (I.hok.fresh (Nat.le_succ _))⟩
def rSort2 (K : Fg) : List V → Hp → VK → Prop := fun xs H Q => rSort1 K xs H Q ∨ rSortI K xs H Q
theorem cr_sort2 (hu : X.A.units + 100 < cLine) : CallR X (.builtin "sorted") (rSort2 X.K) := (cr_sort1 hu).or (cr_sortI hu)
end

/-! ### by values -/
theorem allInt_inv {K : Fg} {R : Hp} : ∀ {ps : List PV} {is : List Int} {vs : List V}, SW.allInt ps = some is → Reps K R ps vs → vs = is.map V.int
  | [], is, vs, h, r => by simp [SW.allInt] at h; subst h; cases r; rfl
  | p :: ps, is, vs, h, r => by
    obtain ⟨y, ys, rfl, h1, h2⟩ := r.cons_inv
    cases p <;> simp [SW.allInt] at h
    obtain ⟨js, h3, rfl⟩ := h
    rw [h1.int_inv, allInt_inv h3 h2]; rfl
theorem allBl_inv {K : Fg} {R : Hp} : ∀ {ps : List PV} {is : List Bool} {vs : List V}, SW.allBl ps = some is → Reps K R ps vs → vs = is.map V.bl
  | [], is, vs, h, r => by simp [SW.allBl] at h; subst h; cases r; rfl
  | p :: ps, is, vs, h, r => by
    obtain ⟨y, ys, rfl, h1, h2⟩ := r.cons_inv
    cases p <;> simp [SW.allBl] at h
    obtain ⟨js, h3, rfl⟩ := h
    rw [h1.bl_inv, allBl_inv h3 h2]; rfl
theorem sumI_sum : ∀ is : List Int, SW.sumI is = is.sum
  | [] => rfl
  | i :: is => by rw [SW.sumI, List.sum_cons, sumI_sum is]
/-- what a built-in asks, by its arguments -/
def BiS (K : Fg) (b : Bi) (r : List V → Hp → VK → Prop) : Prop := ∀ (F R : Hp) (ρ : List Addr) (μ : Mem) (H : Hp) (vs : List Val) (xs : List V) (Q : VK) (Wx : Nat → Hp → Prop), MR F K R ρ μ H → VRs K R ρ vs xs → Post F K (VR K) Wx R ρ (SW.biV b vs μ) Q → r xs H Q
section
variable {K : Fg}
theorem vrs_nil {R : Hp} {ρ : List Addr} {xs : List V} (r : VRs K R ρ [] xs) : xs = [] := by cases r; rfl
theorem vrs_cons {R : Hp} {ρ : List Addr} {v : Val} {vs : List Val} {xs : List V} (r : VRs K R ρ (v :: vs) xs) : ∃ y ys, xs = y :: ys ∧ VR K R ρ v y ∧ VRs K R ρ vs ys := by
  cases r with
  | cons h1 h2 => exact ⟨_, _, rfl, h1, h2⟩
/-- one argument, or two -/
theorem bi_cases {b : Bi} (hb : b ≠ .len) {R H : Hp} {ρ : List Addr} {μ : Mem} {vs : List Val} {xs : List V} {Q : VK} {Wx : Nat → Hp → Prop} (m : MR F K R ρ μ H) (r : VRs K R ρ vs xs) (P : Post F K (VR K) Wx R ρ (SW.biV b vs μ) Q) :
    (∃ x p q, xs = [x] ∧ Vw K R H p x ∧ SW.bi1 b p = some q ∧ Post F K (VR K) Wx R ρ (.ok (.v q) μ) Q) ∨
    ∃ x y p q z, xs = [x, y] ∧ Vw K R H p x ∧ Vw K R H q y ∧ SW.bi2 b p q = some z ∧ Post F K (VR K) Wx R ρ (.ok (.v z) μ) Q := by
  cases vs with
  | nil => cases b <;> exact P.elim
  | cons v vs =>
    obtain ⟨x, ys, rfl, r1, r2⟩ := vrs_cons r
    cases vs with
    | nil =>
      have := vrs_nil r2
      subst this
      have e : SW.biV b [v] μ = (view v μ).bind fun p μ1 => (ofO (SW.bi1 b p) μ1).bind fun r μ2 => .ok (Val.v r) μ2 := by
        cases b <;> first | rfl | exact absurd rfl hb
      rw [e] at P
      obtain ⟨p, hp, P⟩ := view_cases m r1 P
      obtain ⟨q, hq, P⟩ := ofO_cases P
      exact .inl ⟨x, p, q, rfl, hp, hq, P⟩
    | cons w vs =>
      obtain ⟨y, zs, rfl, r3, r4⟩ := vrs_cons r2
      cases vs with
      | nil =>
        have := vrs_nil r4
        subst this
        have e : SW.biV b [v, w] μ = (view v μ).bind fun p μ1 => (view w μ1).bind fun q μ2 => (ofO (SW.bi2 b p q) μ2).bind fun r μ3 => .ok (Val.v r) μ3 := by
          cases b <;> rfl
        rw [e] at P
        obtain ⟨p, hp, P⟩ := view_cases m r1 P
        obtain ⟨q, hq, P⟩ := view_cases m r3 P
        obtain ⟨z, hz, P⟩ := ofO_cases P
        exact .inr ⟨x, y, p, q, z, rfl, hp, hq, hz, P⟩
      | cons u vs => cases b <;> exact P.elim
def rLen (K : Fg) : List V → Hp → VK → Prop := fun xs H Q => (∃ x n, xs = [x] ∧ LenV K x H n ∧ Q (.int n) H) ∨ ((∃ a kvs, xs = [V.ref a] ∧ Rd H a (.dK kvs) ∧ Q (.int kvs.length) H) ∨ ∃ a kvs, xs = [V.ref a] ∧ Rd H a (.dT kvs) ∧ Q (.int ((kvs.length : Nat) : Int)) H)
def rMax (K : Fg) : List V → Hp → VK → Prop := fun xs H Q => rBest K (fun a b => SW.ltv b a) xs H Q ∨ (∃ i j, xs = [.int i, .int j] ∧ Q (.int (if j > i then j else i)) H) ∨ ∃ a b : List Nat, xs = [.str (toS a), .str (toS b)] ∧ Q (.str (toS (if SW.ltS a b = true then b else a))) H
def rMin (K : Fg) : List V → Hp → VK → Prop := fun xs H Q => rBest K SW.ltv xs H Q ∨ (∃ i j, xs = [.int i, .int j] ∧ Q (.int (if j < i then j else i)) H) ∨ ∃ a b : List Nat, xs = [.str (toS a), .str (toS b)] ∧ Q (.str (toS (if SW.ltS b a = true then b else a))) H
def rListOf (K : Fg) : List V → Hp → VK → Prop := fun xs H Q => ∃ p ys, xs = [.ref p] ∧ (SqL K H p ys ∨ SqT K H p ys) ∧ ∀ l, H l = none → Q (.ref l) (upd H l (.lst ys))
def rTupOf (K : Fg) : List V → Hp → VK → Prop := fun xs H Q => ∃ p ys, xs = [.ref p] ∧ ((SqL K H p ys ∧ ∀ l, H l = none → Q (.ref l) (upd H l (.tup ys))) ∨ (SqT K H p ys ∧ Q (.ref p) H))
def rInt1 : List V → Hp → VK → Prop := fun xs H Q => (∃ i, xs = [.int i] ∧ Q (.int i) H) ∨ ∃ k, xs = [.bl k] ∧ Q (.int (if k then 1 else 0)) H
def rIntS : List V → Hp → VK → Prop := fun xs H Q => ∃ a n, xs = [.str a] ∧ PySem.intText? a = some n ∧ a.length ≤ 640 ∧ Q (.int n) H
def rInt : List V → Hp → VK → Prop := fun xs H Q => rInt1 xs H Q ∨ rIntS xs H Q
def rStrI : List V → Hp → VK → Prop := fun xs H Q => ∃ i : Int, xs = [.int i] ∧ i.natAbs.log2 < 1920 ∧ Q (.str (toString i)) H
def rStr : List V → Hp → VK → Prop := fun xs H Q => rStrI xs H Q ∨ ∃ a, xs = [.str a] ∧ Q (.str a) H
theorem numOf_val : ∀ (s : List Nat) (acc n : Nat), SW.numOf s acc = some n → NumText.AllDigits s ∧ s.foldl (fun acc c => acc * 10 + (c - 48)) acc = n
  | [], acc, n, h => by simp [SW.numOf] at h; exact ⟨fun c hc => by simp at hc, h⟩
  | c :: s, acc, n, h => by
    unfold SW.numOf at h
    split at h
    · rename_i hc
      simp only [Bool.and_eq_true] at hc
      have h1 := Nat.le_of_ble_eq_true hc.1
      have h2 := Nat.le_of_ble_eq_true hc.2
      obtain ⟨h3, h4⟩ := numOf_val s _ n h
      refine ⟨fun d hd => ?_, h4⟩
      rcases List.mem_cons.mp hd with rfl | hd
      · exact ⟨h1, h2⟩
      · exact h3 d hd
    · cases h
theorem natS_num : ∀ (f n : Nat) (acc : List Nat), 1 ≤ f → n < 10 ^ f → SW.natS f n acc = TL.numL n ++ acc
  | 0, n, acc, h, _ => by omega
  | f + 1, n, acc, _, h => by
    rw [SW.natS]
    by_cases h1 : n < 10
    · rw [if_pos h1, TL.numL_lt h1]; rfl
    · rw [if_neg h1, natS_num f (n / 10) _ (by
        cases f with
        | zero => rw [Nat.zero_add, Nat.pow_one] at h; omega
        | succ f => omega) (by rw [Nat.pow_succ] at h; omega), TL.numL_step (n := n) (by omega), List.append_assoc]
      rfl
theorem str_toS {x : Str} {s : List Nat} (h : x.cps.toList = s) : x = toS s := by
  subst h; rfl
theorem Vw.len {R H : Hp} {p : PV} {x : V} {q : PV} (s : Sub R H) (h : Vw K R H p x) (e : SW.bi1 .len p = some q) : ∃ n : Nat, q = .int n ∧ LenV K x H n := by
  cases p <;> simp [SW.bi1] at e
  · obtain ⟨hz, rfl⟩ := e
    exact ⟨_, rfl, by rw [h.str_inv]; exact ⟨by rw [toS_len]; exact okN_le hz, by rw [toS_len]⟩⟩
  · subst e
    obtain ⟨a, vs, rfl, h1, h2⟩ := h.tup_inv
    exact ⟨_, rfl, .inr ⟨vs, SqT.mono s h1, h2.length.symm⟩⟩
  · subst e
    obtain ⟨a, vs, rfl, h1, h2⟩ := h.sq
    exact ⟨_, rfl, .inl ⟨vs, h1, h2.length.symm⟩⟩
theorem lenAt_or {R H : Hp} {a : Addr} {o : MO} {n : Nat} (h : OR K R H a o) (e : SW.dlen o = some n) : (∃ kvs, Rd H a (.dK kvs) ∧ kvs.length = n) ∨ ∃ kvs, Rd H a (.dT kvs) ∧ kvs.length = n := by
  cases o with
  | dk ys => simp [SW.dlen] at e; subst e; obtain ⟨ks, h1, h2⟩ := h; exact .inl ⟨ks, .inl h1, h2.len⟩
  | dt ys => simp [SW.dlen] at e; subst e; obtain ⟨ks, h1, h2⟩ := h; exact .inr ⟨ks, .inl h1, h2.len⟩
  | lk o =>
    cases o with
    | dk ys => simp [SW.dlen] at e; subst e; obtain ⟨ob, ks, h1, h2⟩ := h; exact .inl ⟨ks, .inr ⟨ob, h1⟩, h2.len⟩
    | dt ys => simp [SW.dlen] at e; subst e; obtain ⟨ob, ks, h1, h2⟩ := h; exact .inr ⟨ks, .inr ⟨ob, h1⟩, h2.len⟩
    | _ => simp [SW.dlen] at e
  | _ => simp [SW.dlen] at e
theorem bs_len : BiS K .len (rLen K) := by
  intro F R ρ μ H vs xs Q Wx m r P
  cases vs with
  | nil => exact P.elim
  | cons v vs =>
    obtain ⟨x, ys, rfl, r1, r2⟩ := vrs_cons r
    cases vs with
    | nil =>
      have := vrs_nil r2
      subst this
      have e : SW.biV .len [v] μ = match SW.lenAt v μ with
        | some n => .ok (Val.v (.int n)) μ
        | none => (view v μ).bind fun p μ1 => (ofO (SW.bi1 .len p) μ1).bind fun r μ2 => .ok (Val.v r) μ2 := by
        show (match SW.lenAt v μ with | some n => _ | none => _) = _
        cases SW.lenAt v μ <;> rfl
      rw [e] at P
      cases e1 : SW.lenAt v μ with
      | none =>
        rw [e1] at P
        obtain ⟨p, hp, P⟩ := view_cases m r1 P
        obtain ⟨q, hq, P⟩ := ofO_cases P
        obtain ⟨n, rfl, h⟩ := hp.len m.sub hq
        exact .inl ⟨x, n, rfl, h, here_v m P (.int _)⟩
      | some n =>
        rw [e1] at P
        cases v with
        | v p => simp [SW.lenAt] at e1
        | o k =>
          obtain ⟨a, e2, rfl⟩ := r1
          simp only [SW.lenAt] at e1
          cases e3 : μ[k]? with
          | none => rw [e3] at e1; cases e1
          | some o =>
            rw [e3] at e1
            rcases lenAt_or (m.obj k o a e3 e2) e1 with ⟨kvs, h1, rfl⟩ | ⟨kvs, h1, rfl⟩
            · exact .inr (.inl ⟨a, kvs, rfl, h1, here_v m P (.int _)⟩)
            · exact .inr (.inr ⟨a, kvs, rfl, h1, here_v m P (.int _)⟩)
    | cons w vs =>
      cases vs with
      | nil =>
        have e : SW.biV .len [v, w] μ = (view v μ).bind fun p μ1 => (view w μ1).bind fun q μ2 => (ofO (SW.bi2 .len p q) μ2).bind fun r μ3 => .ok (Val.v r) μ3 := rfl
        rw [e] at P
        obtain ⟨y, zs, rfl, r3, r4⟩ := vrs_cons r2
        obtain ⟨p, hp, P⟩ := view_cases m r1 P
        obtain ⟨q, hq, P⟩ := view_cases m r3 P
        exact P.elim
      | cons u vs => exact P.elim
theorem bi1_two {b : Bi} {p q : PV} (h : b ≠ .max2) (h' : b ≠ .min2) : SW.bi2 b p q = none := by
  cases b <;> first | rfl | exact absurd rfl h | exact absurd rfl h'
theorem bs_max : BiS K .max1 (rMax K) := by
  intro F R ρ μ H vs xs Q Wx m r P
  rcases bi_cases (by intro h; cases h) m r P with ⟨x, p, q, rfl, hp, e, P⟩ | ⟨x, y, p, q, z, rfl, hp, hq, e, P⟩
  · cases p <;> try (cases e; done)
    · rename_i ps
      cases ps with
      | nil => cases e
      | cons p ps =>
        simp only [SW.bi1, Option.ite_none_right_eq_some, Option.some.injEq] at e
        obtain ⟨h1, rfl⟩ := e
        obtain ⟨a, vs, rfl, h2, h3⟩ := hp.tup_inv
        refine .inl ⟨a, p, ps, vs, rfl, .inr (SqT.mono m.sub h2), h3.mono m.sub, h1, fun i y hy hb => ?_⟩
        obtain ⟨pp, e1, e2⟩ := h3.get' hy
        rw [hb] at e1; cases e1
        exact here_v m P e2
    · rename_i ps
      cases ps with
      | nil => cases e
      | cons p ps =>
        simp only [SW.bi1, Option.ite_none_right_eq_some, Option.some.injEq] at e
        obtain ⟨h1, rfl⟩ := e
        obtain ⟨a, vs, rfl, h2, h3⟩ := hp.sq
        refine .inl ⟨a, p, ps, vs, rfl, .inl h2, h3.mono m.sub, h1, fun i y hy hb => ?_⟩
        obtain ⟨pp, e1, e2⟩ := h3.get' hy
        rw [hb] at e1; cases e1
        exact here_v m P e2
  · rw [bi1_two (by intro h; cases h) (by intro h; cases h)] at e; cases e
theorem bs_min : BiS K .min1 (rMin K) := by
  intro F R ρ μ H vs xs Q Wx m r P
  rcases bi_cases (by intro h; cases h) m r P with ⟨x, p, q, rfl, hp, e, P⟩ | ⟨x, y, p, q, z, rfl, hp, hq, e, P⟩
  · cases p <;> try (cases e; done)
    · rename_i ps
      cases ps with
      | nil => cases e
      | cons p ps =>
        simp only [SW.bi1, Option.ite_none_right_eq_some, Option.some.injEq] at e
        obtain ⟨h1, rfl⟩ := e
        obtain ⟨a, vs, rfl, h2, h3⟩ := hp.tup_inv
        refine .inl ⟨a, p, ps, vs, rfl, .inr (SqT.mono m.sub h2), h3.mono m.sub, h1, fun i y hy hb => ?_⟩
        obtain ⟨pp, e1, e2⟩ := h3.get' hy
        rw [hb] at e1; cases e1
        exact here_v m P e2
    · rename_i ps
      cases ps with
      | nil => cases e
      | cons p ps =>
        simp only [SW.bi1, Option.ite_none_right_eq_some, Option.some.injEq] at e
        obtain ⟨h1, rfl⟩ := e
        obtain ⟨a, vs, rfl, h2, h3⟩ := hp.sq
        refine .inl ⟨a, p, ps, vs, rfl, .inl h2, h3.mono m.sub, h1, fun i y hy hb => ?_⟩
        obtain ⟨pp, e1, e2⟩ := h3.get' hy
        rw [hb] at e1; cases e1
        exact here_v m P e2
  · rw [bi1_two (by intro h; cases h) (by intro h; cases h)] at e; cases e
theorem bs_max2 : BiS K .max2 (rMax K) := by
  intro F R ρ μ H vs xs Q Wx m r P
  rcases bi_cases (by intro h; cases h) m r P with ⟨x, p, q, rfl, hp, e, P⟩ | ⟨x, y, p, q, z, rfl, hp, hq, e, P⟩
  · cases p <;> cases e
  · cases p <;> cases q <;> simp [SW.bi2] at e
    · subst e
      rw [hp.int_inv, hq.int_inv]
      exact .inr (.inl ⟨_, _, rfl, here_v m P (.int _)⟩)
    · subst e
      rw [hp.str_inv, hq.str_inv]
      exact .inr (.inr ⟨_, _, rfl, here_v m P (.str _)⟩)
theorem bs_min2 : BiS K .min2 (rMin K) := by
  intro F R ρ μ H vs xs Q Wx m r P
  rcases bi_cases (by intro h; cases h) m r P with ⟨x, p, q, rfl, hp, e, P⟩ | ⟨x, y, p, q, z, rfl, hp, hq, e, P⟩
  · cases p <;> cases e
  · cases p <;> cases q <;> simp [SW.bi2] at e
    · subst e
      rw [hp.int_inv, hq.int_inv]
      exact .inr (.inl ⟨_, _, rfl, here_v m P (.int _)⟩)
    · subst e
      rw [hp.str_inv, hq.str_inv]
      exact .inr (.inr ⟨_, _, rfl, here_v m P (.str _)⟩)
theorem bs_sum : BiS K .sum (rSum K) := by
  intro F R ρ μ H vs xs Q Wx m r P
  rcases bi_cases (by intro h; cases h) m r P with ⟨x, p, q, rfl, hp, e, P⟩ | ⟨x, y, p, q, z, rfl, hp, hq, e, P⟩
  · cases p <;> try (cases e; done)
    rename_i ps
    obtain ⟨is, h1, rfl⟩ := Option.map_eq_some_iff.mp (show (SW.allInt ps).map _ = some q from e)
    obtain ⟨a, vs, rfl, h2, h3⟩ := hp.sq
    have := allInt_inv h1 h3
    subst this
    refine ⟨a, is, rfl, h2, ?_⟩
    rw [← sumI_sum]
    exact here_v m P (.int _)
  · rw [bi1_two (by intro h; cases h) (by intro h; cases h)] at e; cases e
theorem bs_all : BiS K .all (rAll K) := by
  intro F R ρ μ H vs xs Q Wx m r P
  rcases bi_cases (by intro h; cases h) m r P with ⟨x, p, q, rfl, hp, e, P⟩ | ⟨x, y, p, q, z, rfl, hp, hq, e, P⟩
  · cases p <;> try (cases e; done)
    rename_i ps
    obtain ⟨is, h1, rfl⟩ := Option.map_eq_some_iff.mp (show (SW.allBl ps).map _ = some q from e)
    obtain ⟨a, vs, rfl, h2, h3⟩ := hp.sq
    have := allBl_inv h1 h3
    subst this
    exact ⟨a, is, rfl, h2, here_v m P (.bl _)⟩
  · rw [bi1_two (by intro h; cases h) (by intro h; cases h)] at e; cases e
theorem bs_any : BiS K .any (rAny K) := by
  intro F R ρ μ H vs xs Q Wx m r P
  rcases bi_cases (by intro h; cases h) m r P with ⟨x, p, q, rfl, hp, e, P⟩ | ⟨x, y, p, q, z, rfl, hp, hq, e, P⟩
  · cases p <;> try (cases e; done)
    rename_i ps
    obtain ⟨is, h1, rfl⟩ := Option.map_eq_some_iff.mp (show (SW.allBl ps).map _ = some q from e)
    obtain ⟨a, vs, rfl, h2, h3⟩ := hp.sq
    have := allBl_inv h1 h3
    subst this
    exact ⟨a, is, rfl, h2, here_v m P (.bl _)⟩
  · rw [bi1_two (by intro h; cases h) (by intro h; cases h)] at e; cases e
theorem bs_tuple : BiS K .tuple (rTupOf K) := by
  intro F R ρ μ H vs xs Q Wx m r P
  rcases bi_cases (by intro h; cases h) m r P with ⟨x, p, q, rfl, hp, e, P⟩ | ⟨x, y, p, q, z, rfl, hp, hq, e, P⟩
  · cases p <;> simp [SW.bi1] at e
    · subst e
      obtain ⟨a, vs, rfl, h2, h3⟩ := hp.tup_inv
      exact ⟨a, vs, rfl, .inr ⟨SqT.mono m.sub h2, here_v m P (.tup h2 h3)⟩⟩
    · subst e
      obtain ⟨a, vs, rfl, h2, h3⟩ := hp.sq
      exact ⟨a, vs, rfl, .inl ⟨h2, fresh_tup m h3 P⟩⟩
  · rw [bi1_two (by intro h; cases h) (by intro h; cases h)] at e; cases e
theorem bs_listOf : BiS K .listOf (rListOf K) := by
  intro F R ρ μ H vs xs Q Wx m r P
  rcases bi_cases (by intro h; cases h) m r P with ⟨x, p, q, rfl, hp, e, P⟩ | ⟨x, y, p, q, z, rfl, hp, hq, e, P⟩
  · cases p <;> simp [SW.bi1] at e
    · subst e
      obtain ⟨a, vs, rfl, h2, h3⟩ := hp.tup_inv
      exact ⟨a, vs, rfl, .inr (SqT.mono m.sub h2), fresh_lst m h3 P⟩
    · subst e
      obtain ⟨a, vs, rfl, h2, h3⟩ := hp.sq
      exact ⟨a, vs, rfl, .inl h2, fresh_lst m h3 P⟩
  · rw [bi1_two (by intro h; cases h) (by intro h; cases h)] at e; cases e
theorem bs_int : BiS K .int rInt := by
  intro F R ρ μ H vs xs Q Wx m r P
  rcases bi_cases (by intro h; cases h) m r P with ⟨x, p, q, rfl, hp, e, P⟩ | ⟨x, y, p, q, z, rfl, hp, hq, e, P⟩
  · cases p with
    | bl b =>
      cases e
      rw [hp.bl_inv]
      exact .inl (.inr ⟨_, rfl, here_v m P (.int _)⟩)
    | int i =>
      cases e
      rw [hp.int_inv]
      exact .inl (.inl ⟨_, rfl, here_v m P (.int _)⟩)
    | str t =>
      have e : (if (t.isEmpty || !(Nat.ble t.length 600)) = true then none else (SW.numOf t 0).map fun n => PV.int (n : Int)) = some q := e
      split at e
      · cases e
      · rename_i h0
        obtain ⟨n, h1, rfl⟩ := Option.map_eq_some_iff.mp e
        simp only [Bool.or_eq_true, Bool.not_eq_true', not_or] at h0
        obtain ⟨n', h1', rfl⟩ : ∃ n' : Nat, SW.numOf t 0 = some n' ∧ (n' : Int) = n := by
          cases hh : SW.numOf t 0 with
          | none => rw [hh] at h1; cases h1
          | some k => rw [hh] at h1; cases h1; exact ⟨k, rfl, rfl⟩
        obtain ⟨h3, h4⟩ := numOf_val t 0 n' h1'
        have h5 : t.length ≤ 600 := Nat.le_of_ble_eq_true (by simpa using h0.2)
        have h6 : t ≠ [] := fun z => by subst z; simp at h0
        rw [hp.str_inv]
        refine .inr ⟨toS t, n', rfl, ?_, by rw [toS_len]; omega, here_v m P (.int _)⟩
        have := PySem.intText_digits (x := toS t) (by rw [toS_list]; exact h3) (by rw [toS_list]; exact h6) (by rw [toS_len]; omega)
        rw [this, toS_list]
        exact congrArg (fun k : Nat => some (k : Int)) h4
    | _ => cases e
  · rw [bi1_two (by intro h; cases h) (by intro h; cases h)] at e; cases e
theorem bs_str : BiS K .str rStr := by
  intro F R ρ μ H vs xs Q Wx m r P
  rcases bi_cases (by intro h; cases h) m r P with ⟨x, p, q, rfl, hp, e, P⟩ | ⟨x, y, p, q, z, rfl, hp, hq, e, P⟩
  · cases p with
    | int i =>
      have e : (if (decide (0 ≤ i) && SW.small64 i) = true then some (PV.str (SW.natS 30 i.toNat [])) else none) = some q := e
      split at e
      · rename_i h0
        simp only [SW.small64, Bool.and_eq_true, decide_eq_true_eq] at h0
        cases e
        rw [hp.int_inv]
        refine .inl ⟨i, rfl, ?_, ?_⟩
        · by_cases hz : i.natAbs = 0
          · rw [hz]; decide
          · exact Nat.lt_of_lt_of_le ((Nat.log2_lt hz).mpr (show i.natAbs < 2 ^ 64 by omega)) (by decide)
        · have e1 : (toString i : Str) = toS (SW.natS 30 i.toNat []) := by
            refine str_toS ?_
            rw [natS_num 30 _ _ (by decide) (by
              have : (10 : Nat) ^ 30 = 1000000000000000000000000000000 := by decide
              omega), List.append_nil, ← TL.tl_num]
            rw [Int.toNat_of_nonneg h0.1]
          rw [e1]
          exact here_v m P (.str _)
      · cases e
    | str t =>
      cases e
      rw [hp.str_inv]
      exact .inr ⟨_, rfl, here_v m P (.str _)⟩
    | _ => cases e
  · rw [bi1_two (by intro h; cases h) (by intro h; cases h)] at e; cases e
theorem reps_intL {K : Fg} {R : Hp} : ∀ js : List Int, Reps K R (js.map PV.int) (js.map V.int)
  | [] => .nil
  | j :: js => .cons (.int j) (reps_intL js)
theorem ints_of {ps : List PV} {is : List Int} : SW.allInt ps = some is → ps = is.map PV.int := by
  induction ps generalizing is with
  | nil => intro h; simp [SW.allInt] at h; subst h; rfl
  | cons p ps ih =>
    intro h
    cases p <;> simp [SW.allInt] at h
    obtain ⟨js, h3, rfl⟩ := h
    rw [ih h3]; rfl
theorem bs_sorted : BiS K .sorted (rSort2 K) := by
  intro F R ρ μ H vs xs Q Wx m r P
  rcases bi_cases (by intro h; cases h) m r P with ⟨x, p, q, rfl, hp, e, P⟩ | ⟨x, y, p, q, z, rfl, hp, hq, e, P⟩
  · cases p <;> simp [SW.bi1] at e
    · rename_i ps
      obtain ⟨h1, rfl⟩ := e
      obtain ⟨a, vs, rfl, h2, h3⟩ := hp.tup_inv
      obtain ⟨is, h4⟩ := Option.isSome_iff_exists.mp h1
      have h5 := allInt_inv h4 h3
      subst h5
      have h6 := ints_of h4
      subst h6
      exact .inr ⟨a, is, rfl, SqT.mono m.sub h2, fun js l e hl => fresh_lst m (by rw [← e]; exact reps_intL js) P l hl⟩
    · obtain ⟨h1, rfl⟩ := e
      obtain ⟨a, vs, rfl, h2, h3⟩ := hp.sq
      exact .inl ⟨a, _, vs, rfl, h2, h3.mono m.sub, h1, fun ys l _ hy hl => fresh_lst m (hy R h3) P l hl⟩
  · rw [bi1_two (by intro h; cases h) (by intro h; cases h)] at e; cases e
end
/-! ### the calls -/
section
variable {X : Cx}
theorem call_len2 : CallR X (.builtin "len") (rLen X.K) := by
  refine call_len.or (CallR.or ?_ ?_)
  · intro pins s σ H xs us Q I r h
    obtain ⟨a, kvs, rfl, e, q⟩ := h
    rw [Vals.ref1 r]
    exact d_len I e fun t s' I' => ⟨.int kvs.length, H, I', ⟨_, rfl⟩, q⟩
  · intro pins s σ H xs us Q I r h
    obtain ⟨a, kvs, rfl, e, q⟩ := h
    rw [Vals.ref1 r]
    obtain ⟨z, hd, ys, rel, dd⟩ := dt_rd I.hok e
    have hl : kvs.length = ys.length := Paired.length rel
    refine call_len_dictH hd dd (by rw [← hl]; rw [sizeLine_eq] at z; omega) ?_
    rw [← hl]
    exact ⟨.int ((kvs.length : Nat) : Int), H, I.tok _, ⟨_, rfl⟩, q⟩
end
/-- the built-in's name and value -/
def biName : Bi → Str
  | .len => "len" | .max2 => "max" | .max1 => "max" | .min2 => "min" | .min1 => "min" | .sum => "sum" | .all => "all" | .any => "any" | .tuple => "tuple" | .int => "int" | .str => "str" | .sorted => "sorted" | .listOf => "list"
  | _ => ""
def biVal : Bi → Value
  | .len => .builtin "len" | .max2 => .builtin "max" | .max1 => .builtin "max" | .min2 => .builtin "min" | .min1 => .builtin "min" | .sum => .builtin "sum" | .all => .builtin "all" | .any => .builtin "any"
  | .tuple => .type "tuple" | .int => .type "int" | .str => .type "str" | .sorted => .builtin "sorted" | .listOf => .type "list"
  | _ => .none
def biOk : Bi → Bool
  | .len => true | .max2 => true | .max1 => true | .min2 => true | .min1 => true | .sum => true | .all => true | .any => true | .tuple => true | .int => true | .str => true | .sorted => true | .listOf => true
  | _ => false
def biR (K : Fg) : Bi → List V → Hp → VK → Prop
  | .len => rLen K | .max2 => rMax K | .max1 => rMax K | .min2 => rMin K | .min1 => rMin K | .sum => rSum K | .all => rAll K | .any => rAny K | .tuple => rTupOf K | .int => rInt | .str => rStr | .sorted => rSort2 K | .listOf => rListOf K
  | _ => fun _ _ _ => False
section
variable {X : Cx}
theorem bi_callR (hc : X.calm = true) (hu : X.A.units + 100 < cLine) : ∀ b : Bi, biOk b = true → CallR X (biVal b) (biR X.K b)
  | .len, _ => call_len2
  | .max2, _ => (cr_max1 hc hu).or ((call_max2 hc).or (cr_max2t hc hu))
  | .max1, _ => (cr_max1 hc hu).or ((call_max2 hc).or (cr_max2t hc hu))
  | .min2, _ => (cr_min1 hc hu).or ((call_min2 hc).or (cr_min2t hc hu))
  | .min1, _ => (cr_min1 hc hu).or ((call_min2 hc).or (cr_min2t hc hu))
  | .sum, _ => cr_sum hc
  | .all, _ => cr_all hc
  | .any, _ => cr_any hc
  | .tuple, _ => call_tuple_of
  | .int, _ => call_int1.or call_int_str
  | .str, _ => call_str_int.or SkE.call_str_str
  | .sorted, _ => cr_sort2 hu
  | .listOf, _ => call_list_of
theorem bi_S (K : Fg) : ∀ b : Bi, biOk b = true → BiS K b (biR K b)
  | .len, _ => bs_len
  | .max2, _ => bs_max2
  | .max1, _ => bs_max
  | .min2, _ => bs_min2
  | .min1, _ => bs_min
  | .sum, _ => bs_sum
  | .all, _ => bs_all
  | .any, _ => bs_any
  | .tuple, _ => bs_tuple
  | .int, _ => bs_int
  | .str, _ => bs_str
  | .sorted, _ => bs_sorted
  | .listOf, _ => bs_listOf
/-- a call of a built-in, whether function or type -/
theorem pe_callV {x : Str} {p pos : Pos} {e : Expr} {es : List Expr} {t : TA} {v : Value} {r : List V → Hp → VK → Prop} (hv : (∃ id, v = .builtin id) ∨ ∃ T, v = .type T) (hc : CallR X v r) (hg : Gl X x) (hm : X.mg x = none) (hb : bootBuiltins x = some v) (ha : PA X (e :: es) t) (hn : x ≠ "__name__") (hdb : (x == ("__debug__" : Str)) = false)
    (he : starEach (e :: es) X.env = (false, eval e X.env) :: starEach es X.env) (hpl : (backTo pos (starEach es X.env)).any (·.1) = false) : PE X (.Call (.Name x p) (e :: es) [] pos) (tCB r t) := by
  rcases hv with ⟨id, rfl⟩ | ⟨T, rfl⟩
  · exact pe_callB hc hg hm hb ha hn hdb he hpl
  · exact pe_callTy hc hg hm hb ha hn hdb he hpl
theorem bi_kind : ∀ b : Bi, biOk b = true → (∃ id, biVal b = .builtin id) ∨ ∃ T, biVal b = .type T
  | .len, _ => .inl ⟨_, rfl⟩
  | .max2, _ => .inl ⟨_, rfl⟩
  | .max1, _ => .inl ⟨_, rfl⟩
  | .min2, _ => .inl ⟨_, rfl⟩
  | .min1, _ => .inl ⟨_, rfl⟩
  | .sum, _ => .inl ⟨_, rfl⟩
  | .all, _ => .inl ⟨_, rfl⟩
  | .any, _ => .inl ⟨_, rfl⟩
  | .tuple, _ => .inr ⟨_, rfl⟩
  | .int, _ => .inr ⟨_, rfl⟩
  | .str, _ => .inr ⟨_, rfl⟩
  | .sorted, _ => .inl ⟨_, rfl⟩
  | .listOf, _ => .inr ⟨_, rfl⟩
theorem bi_boot : ∀ b : Bi, biOk b = true → bootBuiltins (biName b) = some (biVal b)
  | .len, _ => rfl
  | .max2, _ => rfl
  | .max1, _ => rfl
  | .min2, _ => rfl
  | .min1, _ => rfl
  | .sum, _ => rfl
  | .all, _ => rfl
  | .any, _ => rfl
  | .tuple, _ => rfl
  | .int, _ => rfl
  | .str, _ => rfl
  | .sorted, _ => rfl
  | .listOf, _ => rfl
theorem bi_name1 : ∀ b : Bi, biOk b = true → biName b ≠ "__name__" ∧ (biName b == ("__debug__" : Str)) = false
  | .len, _ => by decide
  | .max2, _ => by decide
  | .max1, _ => by decide
  | .min2, _ => by decide
  | .min1, _ => by decide
  | .sum, _ => by decide
  | .all, _ => by decide
  | .any, _ => by decide
  | .tuple, _ => by decide
  | .int, _ => by decide
  | .str, _ => by decide
  | .sorted, _ => by decide
  | .listOf, _ => by decide
variable {EC : Nat → Value} {W : WX}
theorem ev_bi {b : Bi} (hb : biOk b = true) (hc : X.calm = true) (hu : X.A.units + 100 < cLine) {p pos : Pos} {e : Expr} {es : List Expr} {gs : LF (List Val)} (hg : Gl X (biName b)) (hm : X.mg (biName b) = none) (ha : PA X (e :: es) (liftA X.K EC W gs))
    (he : starEach (e :: es) X.env = (false, eval e X.env) :: starEach es X.env) (hpl : (backTo pos (starEach es X.env)).any (·.1) = false) :
    PE X (.Call (.Name (biName b) p) (e :: es) [] pos) (liftE X.K EC W fun l => do let vs ← gs l; SW.biV b vs) := by
  refine PE.imp (pe_callV (bi_kind b hb) (bi_callR hc hu b hb) hg hm (bi_boot b hb) ha (bi_name1 b hb).1 (bi_name1 b hb).2 he hpl) fun σ H Q h => ?_
  exact lift_bind h fun F R ρ l μ H1 vs xs m s r P => bi_S X.K b hb F R ρ μ H1 vs xs Q _ m r P
/-! ### isinstance -/
def tyStr : SW.Ty → String
  | .int => "int" | .bool => "bool" | .str => "str" | .tuple => "tuple" | .list => "list"
def tyName : SW.Ty → Str
  | .int => "int" | .bool => "bool" | .str => "str" | .tuple => "tuple" | .list => "list"
def tyOfV : PV → String
  | .non => "NoneType" | .bl _ => "bool" | .int _ => "int" | .str _ => "str" | .tup _ => "tuple" | .lst _ => "list"
theorem rd_tup {K : Fg} {H : Hp} {a : Addr} {xs : List V} (h : SqT K H a xs) : TyX K H (.ref a) (.type "tuple") := by
  rcases h with h | ⟨o, its, n, hk, hc, _⟩
  · rcases h with h | ⟨o, h⟩
    · exact .base (.tup h)
    · exact .fTuple h
  · exact .kTuple hk hc
theorem rd_lst {K : Fg} {H : Hp} {a : Addr} {xs : List V} (h : Rd H a (.lst xs)) : TyX K H (.ref a) (.type "list") := by
  rcases h with h | ⟨o, h⟩
  · exact .base (.lst h)
  · exact .base (.frz h)
theorem Vw.ty {K : Fg} {R H : Hp} {p : PV} {x : V} (s : Sub R H) (h : Vw K R H p x) : TyX K H x (.type (tyOfV p)) := by
  cases p with
  | non => rw [h.non_inv]; exact .base .non
  | bl b => rw [h.bl_inv]; exact .base (.bl _)
  | int b => rw [h.int_inv]; exact .base (.int _)
  | str b => rw [h.str_inv]; exact .base (.str _)
  | tup ps => obtain ⟨a, vs, rfl, h1, _⟩ := h.tup_inv; exact rd_tup (SqT.mono s h1)
  | lst ps => obtain ⟨a, vs, rfl, h1, _⟩ := h.lst_inv; exact rd_lst h1
theorem kit_all : ∀ (t : SW.Ty) (p : PV), kitB (tyOfV p) (tyStr t) = some (SW.isTy t p) := by
  intro t p
  cases t <;> cases p <;> (simp only [tyOfV, tyStr, SW.isTy]; decide +kernel)
def rIsiP (K : Fg) (t : SW.Ty) : List V → Hp → VK → Prop := fun xs H Q => ∃ x T b, xs = [x, V.ty (tyStr t)] ∧ TyX K H x (.type T) ∧ kitB T (tyStr t) = some b ∧ Q (.bl b) H
theorem call_isP (t : SW.Ty) : CallR X (.builtin "isinstance") (rIsiP X.K t) := by
  intro pins s σ H xs us Q I r h
  obtain ⟨x, T, b, rfl, ty, e, q⟩ := h
  exact call_isi pins s σ H _ us Q I r ⟨x, _, _, _, b, rfl, .ty _, ty, kit_ty e, q⟩
def tIsi (t : SW.Ty) (te : TE) : TA := fun σ H Q => te σ H fun x H1 => Q [x, V.ty (tyStr t)] H1
theorem ty_boot : ∀ t : SW.Ty, bootBuiltins (tyName t) = some (.type (tyStr t))
  | .int => rfl
  | .bool => rfl
  | .str => rfl
  | .tuple => rfl
  | .list => rfl
theorem ty_name1 : ∀ t : SW.Ty, tyName t ≠ "__name__" ∧ (tyName t == ("__debug__" : Str)) = false
  | .int => by decide
  | .bool => by decide
  | .str => by decide
  | .tuple => by decide
  | .list => by decide
theorem ev_isI {t : SW.Ty} {p p2 pos : Pos} {e : Expr} {ga : LF Val} (hg : Gl X "isinstance") (hm : X.mg "isinstance" = none) (hg2 : Gl X (tyName t)) (hm2 : X.mg (tyName t) = none) (ha : PE X e (liftE X.K EC W ga))
    (he : starEach [e, .Name (tyName t) p2] X.env = (false, eval e X.env) :: starEach [.Name (tyName t) p2] X.env) :
    PE X (.Call (.Name "isinstance" p) [e, .Name (tyName t) p2] [] pos) (liftE X.K EC W fun l => do let x ← ga l; SW.biV (.isI t) [x]) := by
  have ht : PE X (.Name (tyName t) p2) (tC (.ty (tyStr t))) := pe_bltn hg2 hm2 (ty_boot t) rfl (ty_name1 t).1 (ty_name1 t).2
  refine PE.imp (pe_callB (call_isP t) hg hm rfl (pa_cons ha (pa_cons ht pa_nil rfl) he) (by decide) (by decide) he rfl) fun σ H Q h => ?_
  refine lift_bind h fun F R ρ l μ H1 v x m s r P => ?_
  have P : Post F X.K (VR X.K) (wx EC W σ) R ρ ((view v μ).bind fun p μ1 => (ofO (SW.bi1 (.isI t) p) μ1).bind fun r μ2 => .ok (Val.v r) μ2) Q := P
  obtain ⟨q, hq, P⟩ := view_cases m r P
  obtain ⟨z, hz, P⟩ := ofO_cases P
  have e1 : SW.bi1 (.isI t) q = some (.bl (SW.isTy t q)) := by cases q <;> rfl
  rw [e1] at hz
  cases hz
  exact ⟨x, tyOfV q, _, rfl, hq.ty m.sub, kit_all t q, here_v m P (.bl _)⟩
end
end SWS
end
section
set_option maxRecDepth 100000
/-! Methods of lists and dicts. -/
namespace SWS
open PySem PySem.Spec PyProof.Rows L2
open SW (PV Val MO Ky Mem Res M E OF It Cn Pat Fl view flat flats ofO bin2 Me)

/-! ### l.remove, l.count, l.index on data -/
theorem findI_place (x : PV) : ∀ (ys : List PV) (n j : Nat), SW.findI x ys n = some j → ∃ k, j = n + k ∧ SeqAt.dataPlace (toDs ys) (toD x) = some k
  | [], n, j, h => by simp [SW.findI] at h
  | y :: ys, n, j, h => by
    unfold SW.findI at h
    unfold SeqAt.dataPlace
    rw [toDs, List.findIdx?_cons, eqv_toD]
    split at h
    · rename_i e
      cases h
      rw [if_pos e]
      exact ⟨0, rfl, rfl⟩
    · rename_i e
      rw [if_neg e]
      obtain ⟨k, h1, h2⟩ := findI_place x ys (n + 1) j h
      unfold SeqAt.dataPlace at h2
      exact ⟨k + 1, by omega, by rw [h2]; rfl⟩
theorem countI_count (x : PV) : ∀ ys : List PV, SW.countI x ys = (toDs ys).countP fun y => PyData.eqv y (toD x)
  | [] => rfl
  | y :: ys => by
    rw [SW.countI, toDs, List.countP_cons, eqv_toD, countI_count x ys, Nat.add_comm]
theorem index_list_data {prog : Program} {w : World} {A : Around} {E : Value → Shared → Prop} {s : Shared} {l : Addr} {vs : Array Value} {xs : List PyData} {x : Value} {d : PyData} {as bs : List Addr} {Q : Value → Shared → Prop} {j : Nat}
    (hl : s.heap.IsList l vs) (rs : ReadsAll s.heap vs.toList xs as) (rx : Reads s.heap x d bs) (hxs : PyData.plainAll xs = true) (hd : d.plain = true) (hu : A.units + 1 + min (PyData.depthAll xs) d.depth < cLine)
    (hp : SeqAt.dataPlace xs d = some j) (hsz : vs.size ≤ sizeLine) (h : Q (.int (j : Nat) s.toks) { s with toks := s.toks + 1 }) : wpAny (model prog w) A (call (.builtin "list.index") [.ref l, x]) Q E s := by
  obtain ⟨⟨cls, dd, data, sl⟩, ho, hc, n, hd'⟩ := id hl
  simp only at hc hd'
  subst hc hd'
  obtain ⟨hj, hit, hno⟩ := SeqAt.hit_at rs hxs hp
  have hz := sizeLine_eq
  exact call_meets PySem.F.slot_list_index ⟨_, ho, rfl⟩ PySem.F.entry_list_index (PySem.F.args_list_index_2 _ _) (SeqAt.list_indexAt l vs n dd sl x _ j hj (by omega) hit hno) ⟨ho, SeqAt.items_plain rs rx hxs hd hu, h⟩
/-! t.index, t a tuple of the top -/
theorem index_tuple_data {prog : Program} {w : World} {A : Around} {E : Value → Shared → Prop} {s : Shared} {l : Addr} {vs : Array Value} {xs : List PyData} {x : Value} {d : PyData} {as bs : List Addr} {Q : Value → Shared → Prop} {j : Nat} {n : Nat} {dd : Option Addr} {sl : Array (Option Value)}
    (ho : s.heap.get? l = some { cls := .type "tuple", dict := dd, data := .seq vs n, slots := sl }) (rs : ReadsAll s.heap vs.toList xs as) (rx : Reads s.heap x d bs) (hxs : PyData.plainAll xs = true) (hd : d.plain = true) (hu : A.units + 1 + min (PyData.depthAll xs) d.depth < cLine)
    (hp : SeqAt.dataPlace xs d = some j) (h : Q (.int (j : Nat) s.toks) { s with toks := s.toks + 1 }) : wpAny (model prog w) A (call (.builtin "tuple.index") [.ref l, x]) Q E s := by
  obtain ⟨hj, hit, hno⟩ := SeqAt.hit_at rs hxs hp
  have key := SeqAt.items_plain (A := A) rs rx hxs hd hu
  refine call_meets PySem.F.slot_tuple_index ⟨_, ho, rfl⟩ PySem.F.entry_tuple_index (PySem.F.args_tuple_index_2 _ _)
    (SeqAt.tuple_index2_found l vs n dd sl x (fun i => match vs[i]? with | some y => (SeqAt.readOf s.heap y).eqv d | none => false) j hj (Nat.zero_le _) hj ?_ ?_) ⟨ho, fun i hi => ?_, h⟩
  rotate_left 2
  · have := key vs[i] (Array.getElem_mem hi)
    rw [Array.getElem?_eq_getElem hi]
    exact this
  · rw [Array.getElem?_eq_getElem hj]
    exact hit
  · intro m hm _ h2
    rw [Array.getElem?_eq_getElem hm]
    exact hno m hm h2
/-- a tuple of the top -/
def TupC (K : Fg) (p : PV) (v : V) : Prop := ∀ ps, p = .tup ps → ∃ a o, v = .ref a ∧ K.lookup a = some o ∧ o.cls = .type "tuple" ∧ o.dict = none
def rIndexT (K : Fg) : V → List V → Hp → VK → Prop := fun x xs H Q => ∃ (l : Addr) (ps : List PV) (p : PV) (y : V) (j : Nat), x = .ref l ∧ xs = [y] ∧ Rep K H (.tup ps) (.ref l) ∧ Rep K H p y ∧ SW.dle 40 p = true ∧ SW.findI p ps 0 = some j ∧ (∃ o, K.lookup l = some o ∧ o.cls = .type "tuple") ∧ Q (.int (j : Nat)) H
theorem mt_indexT {X : Cx} (hu : X.A.units + 100 < cLine) : MtR X "tuple.index" (rIndexT X.K) := by
  intro pins s σ H x xs v us Q I rx rv h
  obtain ⟨l, ps, p, y, j, rfl, rfl, ht, hp, hd, hj, ⟨o, ho, hc⟩, q⟩ := h
  cases rx
  obtain ⟨u, rfl, ru⟩ := rv.one
  obtain ⟨as, r1⟩ := Rep.tup_reads I ht (u := .ref l) rfl
  obtain ⟨bs, r2⟩ := Rep.reads I hp ru
  obtain ⟨k, h1, h2⟩ := findI_place p ps 0 j hj
  have hjk : j = k := by omega
  subst hjk
  have hd' := depth_le p 40 hd
  cases r1 with
  | tuple g1 g2 g3 g4 =>
    rename_i o' vs n
    obtain ⟨cls, dd, data, sl⟩ := o'
    simp only at g2 g3
    subst g2 g3
    exact index_tuple_data g1 g4 r2 (plain_toDs ps) (plain_toD p) (by omega) h2 ⟨.int (j : Nat), H, I.tok _, ⟨_, rfl⟩, q⟩
def rRemove (K : Fg) : V → List V → Hp → VK → Prop := fun x xs H Q => ∃ (l : Addr) (ps : List PV) (vs : List V) (p : PV) (y : V) (j : Nat), x = .ref l ∧ xs = [y] ∧ H l = some (.lst vs) ∧ Reps K H ps vs ∧ Rep K H p y ∧ SW.dle 40 p = true ∧ SW.findI p ps 0 = some j ∧ Q .non (upd H l (.lst (vs.eraseIdx j)))
def rIndexP (K : Fg) : V → List V → Hp → VK → Prop := fun x xs H Q => ∃ (l : Addr) (ps : List PV) (vs : List V) (p : PV) (y : V) (j : Nat), x = .ref l ∧ xs = [y] ∧ SqL K H l vs ∧ Reps K H ps vs ∧ Rep K H p y ∧ SW.dle 40 p = true ∧ SW.findI p ps 0 = some j ∧ Q (.int (j : Nat)) H
def rCountP (K : Fg) : V → List V → Hp → VK → Prop := fun x xs H Q => ∃ (l : Addr) (ps : List PV) (vs : List V) (p : PV) (y : V), x = .ref l ∧ xs = [y] ∧ SqL K H l vs ∧ Reps K H ps vs ∧ Rep K H p y ∧ SW.dle 40 p = true ∧ Q (.int ((SW.countI p ps : Nat) : Int)) H
section
variable {X : Cx}
theorem mt_removeP (hu : X.A.units + 100 < cLine) : MtR X "list.remove" (rRemove X.K) := by
  intro pins s σ H x xs v us Q I rx rv h
  obtain ⟨l, ps, vs, p, y, j, rfl, rfl, hH, hr, hp, hd, hj, q⟩ := h
  cases rx
  obtain ⟨u, rfl, ru⟩ := rv.one
  obtain ⟨z, its, n, r, hl, e⟩ := I.lstM hH
  obtain ⟨as, r1⟩ := Reps.reads I hr r
  obtain ⟨bs, r2⟩ := Rep.reads I hp ru
  obtain ⟨k, h1, h2⟩ := findI_place p ps 0 j hj
  have hjk : j = k := by omega
  subst hjk
  have hd' := depth_le p 40 hd
  refine SeqAt.remove_list_data (vs := its.toArray) ⟨_, e, rfl, n, rfl⟩ (by simpa using r1) r2 (plain_toDs ps) (plain_toD p) (by omega) h2 (by rw [List.size_toArray]; omega) ?_
  refine ⟨.non, _, I.lset (its' := its.eraseIdx j) (t' := s.toks) hH e ?_ (r.eraseIdx j) ?_, rfl, q⟩
  · rw [List.eraseIdxIfInBounds_toArray]
  · have := len_erase vs j
    omega
theorem mt_indexP (hu : X.A.units + 100 < cLine) : MtR X "list.index" (rIndexP X.K) := by
  intro pins s σ H x xs v us Q I rx rv h
  obtain ⟨l, ps, vs, p, y, j, rfl, rfl, hH, hr, hp, hd, hj, q⟩ := h
  cases rx
  obtain ⟨u, rfl, ru⟩ := rv.one
  obtain ⟨its, r, pl, z⟩ := I.list hH
  have hlen := r.length
  obtain ⟨as, r1⟩ := Reps.reads I hr r
  obtain ⟨bs, r2⟩ := Rep.reads I hp ru
  obtain ⟨k, h1, h2⟩ := findI_place p ps 0 j hj
  have hjk : j = k := by omega
  subst hjk
  have hd' := depth_le p 40 hd
  exact index_list_data pl.isList (by simpa using r1) r2 (plain_toDs ps) (plain_toD p) (by omega) h2 (by rw [List.size_toArray]; omega) ⟨.int (j : Nat), H, I.tok _, ⟨_, rfl⟩, q⟩
theorem mt_countP (hu : X.A.units + 100 < cLine) : MtR X "list.count" (rCountP X.K) := by
  intro pins s σ H x xs v us Q I rx rv h
  obtain ⟨l, ps, vs, p, y, rfl, rfl, hH, hr, hp, hd, q⟩ := h
  cases rx
  obtain ⟨u, rfl, ru⟩ := rv.one
  obtain ⟨its, r, pl, z⟩ := I.list hH
  obtain ⟨as, r1⟩ := Reps.reads I hr r
  obtain ⟨bs, r2⟩ := Rep.reads I hp ru
  have hd' := depth_le p 40 hd
  refine SeqAt.count_list_data pl.isList (by simpa using r1) r2 (plain_toDs ps) (plain_toD p) (by omega) ?_
  rw [← countI_count]
  exact ⟨.int _, H, I.tok _, ⟨_, rfl⟩, q⟩
/-- l.extend(m), m a list in whatever part -/
def rExtendP (K : Fg) : V → List V → Hp → VK → Prop := fun x vs H Q => ∃ l b xs zs, x = .ref l ∧ vs = [.ref b] ∧ H l = some (.lst xs) ∧ Rd H b (.lst zs) ∧ xs.length + zs.length ≤ sizeLine ∧ Q .non (upd H l (.lst (xs ++ zs)))
theorem mt_extendP : MtR X "list.extend" (rExtendP X.K) := by
  intro pins s σ H x vs v us Q I rx rv h
  obtain ⟨l, b, xs, zs, rfl, rfl, hH, hB, hz, q⟩ := h
  cases rx
  obtain ⟨u, rfl, ru⟩ := rv.one
  cases ru
  obtain ⟨z, its, n, r, hl, e⟩ := I.lstM hH
  obtain ⟨z2, its2, n2, r2, hl2, e2⟩ := Inv.rdL I hB
  have hsz : its.toArray.size + its2.toArray.size ≤ sizeLine := by rw [List.size_toArray, List.size_toArray]; omega
  have hlong : ¬ (!its.toArray.isEmpty && Builtin.List.listTooLong (its.toArray.size + its2.toArray.size)) = true := by
    rw [notLongL hsz, Bool.and_false]
    exact Bool.false_ne_true
  refine call_meets PySem.F.slot_list_extend ⟨_, e, rfl⟩ PySem.F.entry_list_extend (PySem.F.args_list_extend_2 _ _)
    (AutoSeq1.list_extend_list_list_0 l its.toArray n b its2.toArray n2 hlong (by rw [List.size_toArray]; omega) (by omega)) ⟨e, e2, ?_⟩
  refine ⟨.non, _, I.lset (its' := its ++ its2) hH e (by simp) (r.append r2) ?_, rfl, q⟩
  rw [List.length_append]
  omega
end

/-! ### by values -/
def MeS (K : Fg) (m : Me) (r : V → List V → Hp → VK → Prop) : Prop := ∀ (F R : Hp) (ρ : List Addr) (μ : Mem) (H : Hp) (v : Val) (x : V) (vs : List Val) (xs : List V) (Q : VK) (Wx : Nat → Hp → Prop), MR F K R ρ μ H → VR K R ρ v x → VRs K R ρ vs xs → Post F K (VR K) Wx R ρ (SW.meV m v vs μ) Q → r x xs H Q
section
variable {K : Fg} {R H : Hp} {ρ : List Addr} {μ : Mem} {Q : VK} {Wx : Nat → Hp → Prop}
/-- a list of the store, that may change -/
theorem lst_at {v : Val} {x : V} {g : Nat → List PV → M Val} (m : MR F K R ρ μ H) (r : VR K R ρ v x)
    (P : Post F K (VR K) Wx R ρ (SW.lstO v g μ) Q) :
    ∃ n a ps vs, v = .o n ∧ ρ[n]? = some a ∧ x = .ref a ∧ H a = some (.lst vs) ∧ Reps K R ps vs ∧ Post F K (VR K) Wx R ρ (g n ps μ) Q := by
  cases v with
  | v p => exact P.elim
  | o n =>
    obtain ⟨a, e, rfl⟩ := r
    unfold SW.lstO at P
    dsimp only at P
    cases e1 : μ[n]? with
    | none => rw [e1] at P; exact P.elim
    | some o =>
      rw [e1] at P
      cases o with
      | lst ps =>
        obtain ⟨vs, h1, h2⟩ := m.obj n _ a e1 e
        exact ⟨n, a, ps, vs, rfl, e, rfl, h1, h2, P⟩
      | _ => exact P.elim
/-- behind a change of such a list -/
theorem lst_put {n : Nat} {a : Addr} {ps : List PV} {vs us : List V} {v : Val} {x : V} (m : MR F K R ρ μ H) (e : ρ[n]? = some a) (old : H a = some (.lst us)) (h : Reps K R ps vs) (P : Post F K (VR K) Wx R ρ (.ok v (μ.set n (.lst ps))) Q) (r : VR K R ρ v x) : Q x (upd H a (.lst vs)) :=
  P.here (m.put e (by rw [old]; intro ob v z; cases z) ⟨vs, upd_same, h⟩) r
theorem one_arg {m : Me} {v : Val} {vs : List Val} {xs : List V} (hm : m ≠ .pop ∧ m ≠ .reverse ∧ m ≠ .get2) (r : VRs K R ρ vs xs) (P : Post F K (VR K) Wx R ρ (SW.meV m v vs μ) Q) : ∃ w y, vs = [w] ∧ xs = [y] ∧ VR K R ρ w y := by
  cases vs with
  | nil => obtain ⟨h1, h2, h3⟩ := hm; cases m <;> first | exact P.elim | exact absurd rfl h1 | exact absurd rfl h2 | exact absurd rfl h3
  | cons w vs =>
    obtain ⟨y, ys, rfl, r1, r2⟩ := vrs_cons r
    cases vs with
    | nil =>
      have := vrs_nil r2
      subst this
      exact ⟨w, y, rfl, rfl, r1⟩
    | cons u vs => obtain ⟨h1, h2, h3⟩ := hm; cases m <;> first | exact P.elim | exact absurd rfl h1 | exact absurd rfl h2 | exact absurd rfl h3
theorem ms_append : MeS K .append rAppend := by
  intro F R ρ μ H v x vs xs Q Wx m rv rs P
  obtain ⟨w, y, rfl, rfl, r1⟩ := one_arg (by decide) rs P
  obtain ⟨p, rfl, rp, P⟩ := flat_cases r1 P
  obtain ⟨n, a, ps, zs, rfl, e, rfl, h1, h2, P⟩ := lst_at m rv P
  split at P
  · rename_i hz
    have hz := okN_le hz
    exact ⟨a, zs, y, rfl, rfl, h1, by rw [h2.length]; omega, lst_put m e h1 (h2.append (.cons rp .nil)) P .non⟩
  · exact P.elim
theorem ms_extend : MeS K .extend (rExtendP K) := by
  intro F R ρ μ H v x vs xs Q Wx m rv rs P
  obtain ⟨w, y, rfl, rfl, r1⟩ := one_arg (by decide) rs P
  obtain ⟨p, hp, P⟩ := view_cases m r1 P
  cases p with
  | lst ys =>
    obtain ⟨n, a, ps, zs, rfl, e, rfl, h1, h2, P⟩ := lst_at m rv P
    split at P
    · rename_i hz
      have hz := okN_le hz
      obtain ⟨b, ws, rfl, h3, h4⟩ := hp.lst_inv
      exact ⟨a, b, zs, ws, rfl, rfl, h1, h3, by rw [h2.length, h4.length]; exact hz, lst_put m e h1 (h2.append h4) P .non⟩
    · exact P.elim
  | _ => exact P.elim
theorem getLast_at {xs : List PV} {y : PV} (h : xs.getLast? = some y) : xs[xs.length - 1]? = some y := by rw [← List.getLast?_eq_getElem?]; exact h
theorem no_arg {m : Me} {v : Val} {vs : List Val} {xs : List V} (hm : m = .pop ∨ m = .reverse) (r : VRs K R ρ vs xs) (P : Post F K (VR K) Wx R ρ (SW.meV m v vs μ) Q) : vs = [] ∧ xs = [] := by
  cases vs with
  | nil => exact ⟨rfl, vrs_nil r⟩
  | cons w vs => rcases hm with rfl | rfl <;> (cases vs with | nil => exact P.elim | cons u vs => exact P.elim)
theorem ms_pop : MeS K .pop rPop := by
  intro F R ρ μ H v x vs xs Q Wx m rv rs P
  obtain ⟨rfl, rfl⟩ := no_arg (.inl rfl) rs P
  obtain ⟨n, a, ps, zs, rfl, e, rfl, h1, h2, P⟩ := lst_at m rv P
  cases hy : ps.getLast? with
  | none => rw [hy] at P; exact P.elim
  | some y =>
    rw [hy] at P
    obtain ⟨z, ez, rz⟩ := h2.get (getLast_at hy)
    exact ⟨a, zs, z, rfl, rfl, h1, by rw [h2.length]; exact ez, lst_put m e h1 h2.dropLast P rz⟩
theorem ms_reverse : MeS K .reverse rReverse := by
  intro F R ρ μ H v x vs xs Q Wx m rv rs P
  obtain ⟨rfl, rfl⟩ := no_arg (.inr rfl) rs P
  obtain ⟨n, a, ps, zs, rfl, e, rfl, h1, h2, P⟩ := lst_at m rv P
  exact ⟨a, zs, rfl, rfl, h1, lst_put m e h1 h2.reverse P .non⟩
theorem ms_remove : MeS K .remove (rRemove K) := by
  intro F R ρ μ H v x vs xs Q Wx m rv rs P
  obtain ⟨w, y, rfl, rfl, r1⟩ := one_arg (by decide) rs P
  obtain ⟨p, rfl, rp, P⟩ := flat_cases r1 P
  obtain ⟨n, a, ps, zs, rfl, e, rfl, h1, h2, P⟩ := lst_at m rv P
  split at P
  · rename_i hd
    cases hj : SW.findI p ps 0 with
    | none => rw [hj] at P; exact P.elim
    | some j =>
      rw [hj] at P
      exact ⟨a, ps, zs, p, y, j, rfl, rfl, h1, h2.mono m.sub, rp.mono m.sub, hd, hj, lst_put m e h1 (h2.eraseIdx j) P .non⟩
  · exact P.elim
theorem ms_popAt : MeS K .popAt rPopAt := by
  intro F R ρ μ H v x vs xs Q Wx m rv rs P
  obtain ⟨w, y, rfl, rfl, r1⟩ := one_arg (by decide) rs P
  obtain ⟨p, rfl, rp, P⟩ := flat_cases r1 P
  cases p with
  | int i =>
    obtain ⟨n, a, ps, zs, rfl, e, rfl, h1, h2, P⟩ := lst_at m rv P
    split at P
    · rename_i h0
      simp only [Bool.and_eq_true, decide_eq_true_eq] at h0
      obtain ⟨h0, hz⟩ := h0
      have hz := okN_le hz
      cases hy : ps[i.toNat]? with
      | none => rw [hy] at P; exact P.elim
      | some y =>
        rw [hy] at P
        obtain ⟨z, ez, rz⟩ := h2.get hy
        have hlt := (List.getElem?_eq_some_iff.mp ez).1
        have hs := sizeLine_eq
        have hl := h2.length
        refine ⟨a, zs, i, i.toNat, z, rfl, ?_, h1, by omega, by omega, seqIndex_of h0 (by omega), ez, lst_put m e h1 (h2.eraseIdx i.toNat) P rz⟩
        rw [rp.int_inv]
    · exact P.elim
  | _ => exact P.elim
theorem ms_index : MeS K .index (rIndexP K) := by
  intro F R ρ μ H v x vs xs Q Wx m rv rs P
  obtain ⟨w, y, rfl, rfl, r1⟩ := one_arg (by decide) rs P
  obtain ⟨p, hp, P⟩ := view_cases m rv P
  obtain ⟨q, hq, P⟩ := view_cases m r1 P
  cases p with
  | lst ps =>
    obtain ⟨a, zs, rfl, h1, h2⟩ := hp.sq
    have P : Post F K (VR K) Wx R ρ ((if SW.dle 40 q then (match SW.findI q ps 0 with | some j => pure (Val.v (.int j)) | none => SW.no) else SW.no : M Val) μ) Q := P
    split at P
    · rename_i hd
      cases hj : SW.findI q ps 0 with
      | none => rw [hj] at P; exact P.elim
      | some j =>
        rw [hj] at P
        exact ⟨a, ps, zs, q, y, j, rfl, rfl, h1, h2.mono m.sub, hq.rep m.sub, hd, hj, here_v m P (.int _)⟩
    · exact P.elim
  | _ => exact P.elim
theorem ms_count : MeS K .count (rCountP K) := by
  intro F R ρ μ H v x vs xs Q Wx m rv rs P
  obtain ⟨w, y, rfl, rfl, r1⟩ := one_arg (by decide) rs P
  obtain ⟨p, hp, P⟩ := view_cases m rv P
  obtain ⟨q, hq, P⟩ := view_cases m r1 P
  cases p with
  | lst ps =>
    obtain ⟨a, zs, rfl, h1, h2⟩ := hp.sq
    have P : Post F K (VR K) Wx R ρ ((if SW.dle 40 q then pure (Val.v (.int (SW.countI q ps))) else SW.no : M Val) μ) Q := P
    split at P
    · rename_i hd
      exact ⟨a, ps, zs, q, y, rfl, rfl, h1, h2.mono m.sub, hq.rep m.sub, hd, here_v m P (.int _)⟩
    · exact P.elim
  | _ => exact P.elim
/-- the receiver's kind -/
theorem kind_lst {m : Me} (hm : (match m with | .get1 => false | .get2 => false | .join => false | .split => false | .indexT => false | _ => true) = true) {v : Val} {x : V} {α β : Type} {rel : Hp → List Addr → α → β → Prop} {Q' : β → Hp → Prop} {f : Unit → Mem → Res α} (mr : MR F K R ρ μ H) (r : VR K R ρ v x)
    (P : Post F K rel Wx R ρ ((SW.kindM m v μ).bind f) Q') : tyV K "list" x H ∧ Post F K rel Wx R ρ (f () μ) Q' := by
  have e : SW.kindM m v μ = match view v μ with | .ok (.lst _) _ => .ok () μ | _ => .no := by
    cases m <;> first | rfl | cases hm
  rw [e] at P
  have P1 : Post F K rel Wx R ρ ((view v μ).bind fun p _ => match p with | .lst _ => f () μ | _ => .no) Q' := by
    cases e1 : view v μ with
    | ok p μ1 => rw [e1] at P; cases p <;> exact P
    | exn c μ1 => rw [e1] at P; exact P.elim
    | no => rw [e1] at P; exact P.elim
  obtain ⟨p, hp, P2⟩ := view_cases mr r P1
  cases p with
  | lst ps =>
    obtain ⟨a, zs, rfl, h1, h2⟩ := hp.sq
    exact ⟨.inl ⟨rfl, zs, h1⟩, P2⟩
  | _ => exact P2.elim
end
/-! ### the calls -/
def meName : Me → Str
  | .append => "append" | .extend => "extend" | .index => "index" | .indexT => "index" | .count => "count" | .pop => "pop" | .popAt => "pop" | .remove => "remove" | .reverse => "reverse" | .get1 => "get" | .get2 => "get" | .join => "join" | .split => "split"
def meId : Me → String
  | .append => "list.append" | .extend => "list.extend" | .index => "list.index" | .count => "list.count" | .pop => "list.pop" | .popAt => "list.pop" | .remove => "list.remove" | .reverse => "list.reverse" | _ => ""
def meOk : Me → Bool
  | .append => true | .extend => true | .index => true | .count => true | .pop => true | .popAt => true | .remove => true | .reverse => true | _ => false
def meR (K : Fg) : Me → V → List V → Hp → VK → Prop
  | .append => rAppend | .extend => rExtendP K | .index => rIndexP K | .count => rCountP K | .pop => rPop | .popAt => rPopAt | .remove => rRemove K | .reverse => rReverse | _ => fun _ _ _ _ => False
section
variable {X : Cx}
theorem me_mt (hu : X.A.units + 100 < cLine) : ∀ m : Me, meOk m = true → MtR X (meId m) (meR X.K m)
  | .append, _ => mt_append
  | .extend, _ => mt_extendP
  | .index, _ => mt_indexP hu
  | .count, _ => mt_countP hu
  | .pop, _ => mt_pop
  | .popAt, _ => mt_popAt
  | .remove, _ => mt_removeP hu
  | .reverse, _ => mt_reverse
theorem me_S (K : Fg) : ∀ m : Me, meOk m = true → MeS K m (meR K m)
  | .append, _ => ms_append
  | .extend, _ => ms_extend
  | .index, _ => ms_index
  | .count, _ => ms_count
  | .pop, _ => ms_pop
  | .popAt, _ => ms_popAt
  | .remove, _ => ms_remove
  | .reverse, _ => ms_reverse
theorem me_slot : ∀ m : Me, meOk m = true → Slot "list" (meName m) (meId m)
  | .append, _ => PySem.F.slot_list_append
  | .extend, _ => PySem.F.slot_list_extend
  | .index, _ => PySem.F.slot_list_index
  | .count, _ => PySem.F.slot_list_count
  | .pop, _ => PySem.F.slot_list_pop
  | .popAt, _ => PySem.F.slot_list_pop
  | .remove, _ => PySem.F.slot_list_remove
  | .reverse, _ => PySem.F.slot_list_reverse
theorem me_type : ∀ m : Me, meOk m = true → typeOf (.builtin (meId m)) = pure (.type "method_descriptor")
  | .append, _ => PySem.F.type_list_append
  | .extend, _ => PySem.F.type_list_extend
  | .index, _ => PySem.F.type_list_index
  | .count, _ => PySem.F.type_list_count
  | .pop, _ => PySem.F.type_list_pop
  | .popAt, _ => PySem.F.type_list_pop
  | .remove, _ => PySem.F.type_list_remove
  | .reverse, _ => PySem.F.type_list_reverse
theorem me_kind : ∀ m : Me, meOk m = true → (match m with | .get1 => false | .get2 => false | .join => false | .split => false | .indexT => false | _ => true) = true
  | .append, _ => rfl
  | .extend, _ => rfl
  | .index, _ => rfl
  | .count, _ => rfl
  | .pop, _ => rfl
  | .popAt, _ => rfl
  | .remove, _ => rfl
  | .reverse, _ => rfl
variable {EC : Nat → Value} {W : WX} {go : LF Val} {gs : LF (List Val)} {o e : Expr} {es : List Expr} {apos cpos : Pos}
theorem ev_me0 {m : Me} (hm : meOk m = true) (hu : X.A.units + 100 < cLine) (ho : PE X o (liftE X.K EC W go)) (hbase : attributeBase o (meName m) X.env (eval o X.env) = eval o X.env) (hline : (apos.endLine == cpos.line) = true) :
    PE X (.Call (.Attribute o (meName m) apos) [] [] cpos) (liftE X.K EC W fun l => do let x ← go l; SW.kindM m x; let vs ← (pure [] : M (List Val)); SW.meV m x vs) := by
  refine PE.imp (pe_bm0 PySem.F.plainAttrs_list (me_slot m hm) (me_type m hm) (me_mt hu m hm) ho hbase hline) fun σ H Q h => ?_
  refine lift_bind h fun F R ρ l μ H1 v x mr s r P => ?_
  obtain ⟨ty, P⟩ := kind_lst (me_kind m hm) mr r P
  exact ⟨ty, me_S X.K m hm F R ρ μ H1 v x [] [] Q _ mr r .nil P⟩
theorem ev_me {m : Me} (hm : meOk m = true) (hu : X.A.units + 100 < cLine) (ho : PE X o (liftE X.K EC W go)) (ha : PA X (e :: es) (liftA X.K EC W gs))
    (hbase : attributeBase o (meName m) X.env (eval o X.env) = eval o X.env)
    (hfew : ((backTo cpos (starEach (e :: es) X.env)).all (fun x => !x.1) && (backToKw cpos (keywordEach [] X.env)).all (fun x => x.1.isSome)
      && decide ((e :: es).length + ([] : List Keyword).length + (if ([] : List Keyword).isEmpty then 0 else 1) < 30)) = true)
    (hline : (apos.endLine == cpos.line) = true) (hs : starEach (e :: es) X.env = (false, eval e X.env) :: starEach es X.env) (hplain : (backTo cpos (starEach es X.env)).any (·.1) = false) :
    PE X (.Call (.Attribute o (meName m) apos) (e :: es) [] cpos) (liftE X.K EC W fun l => do let x ← go l; SW.kindM m x; let vs ← gs l; SW.meV m x vs) := by
  refine PE.imp (pe_bm PySem.F.plainAttrs_list (me_slot m hm) (me_type m hm) (me_mt hu m hm) ho ha hbase hfew hline hs hplain) fun σ H Q h => ?_
  refine lift_bind h fun F R ρ l μ H1 v x mr s r P => ?_
  obtain ⟨ty, P⟩ := kind_lst (me_kind m hm) mr r P
  refine ⟨ty, lift_next (Wx := fun _ _ => True) mr s P fun R2 ρ2 μ2 H2 vs ys s2 p2 m2 _ r2 P2 => ?_⟩
  exact me_S X.K m hm F R2 ρ2 μ2 H2 v x vs ys Q _ m2 (r.mono s2 p2) r2 P2
theorem ev_indexT (hu : X.A.units + 100 < cLine) {x : Str} {xp : Pos} {v : V} {ps : List PV} {e : Expr} {gs : LF (List Val)} (ho : PE X (.Name x xp) (tC v)) (hv : ∀ R, Rep X.K R (.tup ps) v) (ht : TupC X.K (.tup ps) v) (ha : PA X [e] (liftA X.K EC W gs))
    (hbase : attributeBase (.Name x xp) "index" X.env (eval (.Name x xp) X.env) = eval (.Name x xp) X.env)
    (hfew : ((backTo cpos (starEach [e] X.env)).all (fun x => !x.1) && (backToKw cpos (keywordEach [] X.env)).all (fun x => x.1.isSome)
      && decide (([e] : List Expr).length + ([] : List Keyword).length + (if ([] : List Keyword).isEmpty then 0 else 1) < 30)) = true)
    (hline : (apos.endLine == cpos.line) = true) (hs : starEach [e] X.env = (false, eval e X.env) :: starEach [] X.env) :
    PE X (.Call (.Attribute (.Name x xp) "index" apos) [e] [] cpos) (liftE X.K EC W fun l => do let x ← (pure (Val.v (.tup ps)) : M Val); SW.kindM .indexT x; let vs ← gs l; SW.meV .indexT x vs) := by
  obtain ⟨a, o, rfl, h1, h2, h3⟩ := ht ps rfl
  refine PE.imp (pe_bm PySem.F.plainAttrs_tuple PySem.F.slot_tuple_index PySem.F.type_tuple_index (mt_indexT hu) ho ha hbase hfew hline hs rfl) fun σ H Q h => ?_
  obtain ⟨F, R, ρ, l, μ, m, s, P⟩ := h
  have P : Post F X.K (VR X.K) (wx EC W σ) R ρ ((gs l >>= fun vs => SW.meV .indexT (.v (.tup ps)) vs) μ) Q := P
  refine ⟨.inr (.inl ⟨rfl, o, h1, h2, h3⟩), lift_next (Wx := fun _ _ => True) m s P fun R2 ρ2 μ2 H2 vs ys s2 p2 m2 _ r2 P2 => ?_⟩
  obtain ⟨w, y, rfl, rfl, r1⟩ := one_arg (by decide) r2 P2
  obtain ⟨q, rfl, rq, P2⟩ := flat_cases r1 P2
  have P2 : Post F X.K (VR X.K) (wx EC W σ) R2 ρ2 ((if SW.dle 40 q then (match SW.findI q ps 0 with | some j => pure (Val.v (.int j)) | none => SW.no) else SW.no : M Val) μ2) Q := P2
  split at P2
  · rename_i hd
    cases hj : SW.findI q ps 0 with
    | none => rw [hj] at P2; exact P2.elim
    | some j =>
      rw [hj] at P2
      exact ⟨a, ps, q, y, j, rfl, rfl, hv _, rq.mono m2.sub, hd, hj, ⟨o, h1, h2⟩, here_v m2 P2 (.int _)⟩
  · exact P2.elim
/-! d.get -/
theorem kind_dic {K : Fg} {R H : Hp} {ρ : List Addr} {μ : Mem} {Wx : Nat → Hp → Prop} {m : Me} (hm : m = .get1 ∨ m = .get2) {v : Val} {x : V} {α β : Type} {rel : Hp → List Addr → α → β → Prop} {Q' : β → Hp → Prop} {f : Unit → Mem → Res α} (mr : MR F K R ρ μ H) (r : VR K R ρ v x)
    (P : Post F K rel Wx R ρ ((SW.kindM m v μ).bind f) Q') : ∃ a, x = .ref a ∧ IsD H a ∧ Post F K rel Wx R ρ (f () μ) Q' := by
  have e : SW.kindM m v μ = match SW.lenAt v μ with | some _ => .ok () μ | none => .no := by
    rcases hm with rfl | rfl <;> rfl
  rw [e] at P
  cases e1 : SW.lenAt v μ with
  | none => rw [e1] at P; exact P.elim
  | some n =>
    rw [e1] at P
    cases v with
    | v p => simp [SW.lenAt] at e1
    | o k =>
      obtain ⟨a, e2, rfl⟩ := r
      simp only [SW.lenAt] at e1
      cases e3 : μ[k]? with
      | none => rw [e3] at e1; cases e1
      | some o =>
        rw [e3] at e1
        rcases lenAt_or (mr.obj k o a e3 e2) e1 with ⟨kvs, h1, rfl⟩ | ⟨kvs, h1, rfl⟩
        · exact ⟨a, rfl, .inl ⟨kvs, h1⟩, P⟩
        · exact ⟨a, rfl, .inr ⟨kvs, h1⟩, P⟩
theorem ev_get1 (hu : X.A.units + 100 < cLine) (ho : PE X o (liftE X.K EC W go)) {ge : LF Val} (he : PE X e (liftE X.K EC W ge)) (m1 : M1 X o "get" apos e cpos) :
    PE X (.Call (.Attribute o "get" apos) [e] [] cpos) (liftE X.K EC W fun l => do let x ← go l; SW.kindM .get1 x; let vs ← (do let v ← ge l; let vs ← (pure [] : M (List Val)); pure (v :: vs)); SW.meV .get1 x vs) := by
  refine PE.imp (pe_dget1 (by omega) ho he m1) fun σ H Q h => ?_
  refine lift_bind h fun F R ρ l μ H1 v x mr s r P => ?_
  obtain ⟨a, rfl, hd, P⟩ := kind_dic (.inl rfl) mr r P
  refine ⟨a, rfl, hd, ?_⟩
  have P : Post F X.K (VR X.K) (wx EC W σ) R ρ ((ge l >>= fun w => SW.meV .get1 v [w]) μ) Q := by
    have e := m_assoc (ge l) (fun w => (pure [w] : M (List Val))) (fun vs => SW.meV .get1 v vs)
    rw [show (ge l >>= fun w => SW.meV .get1 v [w]) = ((ge l >>= fun w => (pure [w] : M (List Val))) >>= fun vs => SW.meV .get1 v vs) from e.symm]
    exact P
  refine lift_next (Wx := fun _ _ => True) mr s P fun R2 ρ2 μ2 H2 w y s2 p2 m2 _ r2 P2 => ?_
  obtain ⟨q, rfl, rq, P2⟩ := flat_cases r2 P2
  have P2 : Post F X.K (VR X.K) (wx EC W σ) R2 ρ2 (match SW.dicAt v μ2, SW.keyOf q with | some kvs, some k => .ok (Val.v ((SW.dget kvs k).getD .non)) μ2 | _, _ => .no) Q := P2
  cases e1 : SW.dicAt v μ2 with
  | none => rw [e1] at P2; exact P2.elim
  | some kvs =>
    cases e2 : SW.keyOf q with
    | none => rw [e1, e2] at P2; exact P2.elim
    | some k =>
      rw [e1, e2] at P2
      obtain ⟨a', ks, ea, h1, h2⟩ := dicAt_some m2 (r.mono s2 p2) e1
      cases ea
      have hx := keyOf_rep e2 rq
      subst hx
      refine ⟨_, DGet.rd h1 (skey k), ?_⟩
      dsimp only at P2
      rcases h2.get (fun _ _ => skey_inj) k with ⟨e3, e4⟩ | ⟨p, z, e3, e4, rz⟩
      · rw [e3] at P2; rw [e4]; exact here_v m2 P2 .non
      · rw [e3] at P2; rw [e4]; exact here_v m2 P2 rz
theorem ev_get2 (hu : X.A.units + 100 < cLine) {f : Expr} (ho : PE X o (liftE X.K EC W go)) {ge gf : LF Val} (he : PE X e (liftE X.K EC W ge)) (hf : PE X f (liftE X.K EC W gf)) (m1 : M2 X o "get" apos e f cpos) :
    PE X (.Call (.Attribute o "get" apos) [e, f] [] cpos) (liftE X.K EC W fun l => do let x ← go l; SW.kindM .get2 x; let vs ← (do let v ← ge l; let vs ← (do let w ← gf l; let vs ← (pure [] : M (List Val)); pure (w :: vs)); pure (v :: vs)); SW.meV .get2 x vs) := by
  refine PE.imp (pe_dget2 (by omega) ho he hf m1) fun σ H Q h => ?_
  refine lift_bind h fun F R ρ l μ H1 v x mr s r P => ?_
  obtain ⟨a, rfl, hd, P⟩ := kind_dic (.inr rfl) mr r P
  refine ⟨a, rfl, hd, ?_⟩
  have P : Post F X.K (VR X.K) (wx EC W σ) R ρ ((ge l >>= fun w => gf l >>= fun u => SW.meV .get2 v [w, u]) μ) Q := by
    have e : (ge l >>= fun w => gf l >>= fun u => SW.meV .get2 v [w, u]) = ((do let v ← ge l; let vs ← (do let w ← gf l; let vs ← (pure [] : M (List Val)); pure (w :: vs)); pure (v :: vs)) >>= fun vs => SW.meV .get2 v vs) := by
      rw [m_assoc]
      congr 1
      funext w
      rw [m_assoc, m_assoc]
      rfl
    rw [e]
    exact P
  refine lift_next (Wx := fun _ _ => True) mr s P fun R2 ρ2 μ2 H2 w y s2 p2 m2 sr2 r2 P2 => ?_
  refine lift_next (Wx := fun _ _ => True) m2 sr2 P2 fun R3 ρ3 μ3 H3 u z s3 p3 m3 _ r3 P3 => ?_
  obtain ⟨q, rfl, rq, P3⟩ := flat_cases (r2.mono s3 p3) P3
  obtain ⟨dd, rfl, rd, P3⟩ := flat_cases r3 P3
  have P3 : Post F X.K (VR X.K) (wx EC W σ) R3 ρ3 (match SW.dicAt v μ3, SW.keyOf q with | some kvs, some k => .ok (Val.v ((SW.dget kvs k).getD dd)) μ3 | _, _ => .no) Q := P3
  cases e1 : SW.dicAt v μ3 with
  | none => rw [e1] at P3; exact P3.elim
  | some kvs =>
    cases e2 : SW.keyOf q with
    | none => rw [e1, e2] at P3; exact P3.elim
    | some k =>
      rw [e1, e2] at P3
      obtain ⟨a', ks, ea, h1, h2⟩ := dicAt_some m3 (r.mono (s2.trans s3) (p2.trans p3)) e1
      cases ea
      have hx := keyOf_rep e2 rq
      subst hx
      refine ⟨_, DGet.rd h1 (skey k), ?_⟩
      dsimp only at P3
      rcases h2.get (fun _ _ => skey_inj) k with ⟨e3, e4⟩ | ⟨p, z, e3, e4, rz⟩
      · rw [e3] at P3; rw [e4]; exact here_v m3 P3 rd
      · rw [e3] at P3; rw [e4]; exact here_v m3 P3 rz
end
end SWS
end
section
set_option maxRecDepth 100000
set_option maxHeartbeats 1000000
/-! Iterators: zip of lists and tuples mixed, enumerate of lists, tuples, texts. The steps of zip follow HandS.Zip0's, with kinds for the two parts. -/
namespace SWS
open PySem PySem.Spec PyProof.Rows L2
/-- an iterator of a list (true) or of a tuple (false) -/
def ItK (k : Bool) (h : Heap) (it l : Addr) (i : Nat) : Prop := match k with | true => h.IsListIter it l i | false => h.IsTupleIter it l i
def SqK (k : Bool) (h : Heap) (l : Addr) (xs : Array Value) : Prop := match k with | true => h.IsList l xs | false => h.IsTuple l xs
def itN (k : Bool) : String := match k with | true => "list_iterator" | false => "tuple_iterator"
section
variable {k : Bool} {h h' : Heap} {it l b : Addr} {i : Nat} {xs : Array Value}
theorem ItK.rec' (x : ItK k h it l i) : ∃ o, h.get? it = some o ∧ o.cls = .type (itN k) ∧ o.data = .fields #[.ref l, .int i 0] := by cases k <;> exact x
theorem ItK.at (x : ItK k h it l i) (e : ∀ o, h.get? it = some o → h'.get? it = some o) : ItK k h' it l i := by
  cases k
  · exact Heap.IsTupleIter.at x e
  · exact Heap.IsListIter.at x e
theorem ItK.extBut (x : ItK k h it l i) (hs : Heap.ExtBut b h h') (hne : it ≠ b) : ItK k h' it l i := x.at fun o e => hs _ _ hne e
theorem ItK.lt (x : ItK k h it l i) : it < h.objs.size := by
  obtain ⟨_, e, _⟩ := x.rec'; exact Heap.lt_size e
theorem SqK.at (x : SqK k h l xs) (e : ∀ o, h.get? l = some o → h'.get? l = some o) : SqK k h' l xs := by
  cases k
  · obtain ⟨o, ho, r⟩ := x; exact ⟨o, e _ ho, r⟩
  · obtain ⟨o, ho, r⟩ := x; exact ⟨o, e _ ho, r⟩
theorem SqK.extBut (x : SqK k h l xs) (hs : Heap.ExtBut b h h') (hne : l ≠ b) : SqK k h' l xs := x.at fun o e => hs _ _ hne e
theorem SqK.lt (x : SqK k h l xs) : l < h.objs.size := by
  cases k
  · obtain ⟨o, ho, r⟩ := x; exact Heap.lt_size ho
  · obtain ⟨o, ho, r⟩ := x; exact Heap.lt_size ho
theorem SqK.push (x : SqK k h l xs) (o : Obj) : SqK k (h.push o) l xs := x.at fun _ e => Heap.get?_push_of_some _ e
end
section
variable {prog : Program} {w : World} {A : Around} {E : Value → Shared → Prop} {s : Shared}
theorem nextOf_K_item {k : Bool} {it l : Addr} {i : Nat} {items} {x : Value} {Q : Value → Shared → Prop} (hit : ItK k s.heap it l i)
    (hl : SqK k s.heap l items) (hx : items[i]? = some x)
    (hQ : ∀ h', ItK k h' it l (i + 1) → Heap.SameBut it s.heap h' → Q x { s with heap := h' }) :
    wpAny (model prog w) A (Builtin.SmallTypes.nextOf (.ref it)) Q E s := by
  cases k
  · exact RZ.nextOf_tuple_item hit hl hx hQ
  · exact wpAny_nextOf_list_item hit hl hx hQ
theorem nextOf_K_end {k : Bool} {it l : Addr} {i : Nat} {items} {Q : Value → Shared → Prop} (hh : A.handled = none)
    (hit : ItK k s.heap it l i) (hl : SqK k s.heap l items) (hx : items[i]? = none)
    (hE : ∀ h' e, Heap.ExtBut it s.heap h' → (∃ o, h'.get? e = some o ∧ o.cls = .type "StopIteration") → E (.ref e) { s with heap := h' }) :
    wpAny (model prog w) A (Builtin.SmallTypes.nextOf (.ref it)) Q E s := by
  cases k
  · exact RZ.nextOf_tuple_end hh hit hl hx hE
  · exact wpAny_nextOf_list_end hh hit hl hx hE
theorem pyIter_K {k : Bool} {l : Addr} {items} {Q : Value → Shared → Prop} (hl : SqK k s.heap l items)
    (hQ : Q (.ref s.heap.objs.size) { s with heap := s.heap.push { cls := .type (itN k), data := .fields #[.ref l, .int 0 0] } }) : wpAny (model prog w) A (pyIter (.ref l)) Q E s := by
  cases k
  · exact wpAny_pyIter_tuple hl hQ
  · exact wpAny_pyIter_list hl hQ
theorem zipK_next_item {z TI TO i1 i2 l1 l2 : Addr} {a1 a2 : Bool} {k1 k2 : Nat} {xs ys : Array Value} {x y a b : Value} {Q : Value → Shared → Prop} (D : ZipApart z TI TO i1 i2 l1 l2)
    (hz : IsZip s.heap z TI TO .none) (hTI : IsPair s.heap TI (.ref i1) (.ref i2)) (hTO : IsPair s.heap TO a b)
    (h1 : ItK a1 s.heap i1 l1 k1) (h2 : ItK a2 s.heap i2 l2 k2) (hl1 : SqK a1 s.heap l1 xs) (hl2 : SqK a2 s.heap l2 ys) (hx : xs[k1]? = some x) (hy : ys[k2]? = some y)
    (hQ : ∀ h', IsZip h' z TI TO (rawInt s.heap.objs.size) → IsPair h' TO x y → ItK a1 h' i1 l1 (k1 + 1) → ItK a2 h' i2 l2 (k2 + 1) → IsPair h' s.heap.objs.size x y → h'.objs.size = s.heap.objs.size + 1 →
      (∀ c o, c ≠ z → c ≠ TO → c ≠ i1 → c ≠ i2 → s.heap.get? c = some o → h'.get? c = some o) → Q (.ref s.heap.objs.size) { s with heap := h' }) :
    wpAny (model prog w) A (Builtin.«zip.__next__» ⟨[.ref z], []⟩) (fun fin s' => ∃ v, fin = .done (.ret v) ∧ Q v s') E s := by
  show wpAny _ _ (field (.ref z) 2 >>= _) _ _ _
  refine wpAny_bind (wpAny_field hz rfl (x := .bool false) rfl ?_)
  show wpAny _ _ (field (.ref z) 3 >>= _) _ _ _
  refine wpAny_bind (wpAny_field hz rfl (x := .ref TI) rfl ?_)
  refine wpAny_bind (wpAny_seqItems hTI rfl ?_)
  show wpAny _ _ (Builtin.SmallTypes.ownedTupleIsFree (.ref z) >>= _) _ _ _
  refine wpAny_bind ?_
  unfold Builtin.SmallTypes.ownedTupleIsFree
  refine wpAny_bind (wpAny_field hz rfl (x := .none) rfl (wpAny_pure ?_))
  simp only [if_true]
  refine wpAny_bind (wpAny_rule ?_)
  refine wpAny_bind (wpAny_field hz rfl (x := .ref TO) rfl ?_)
  refine wpAny_bind (wpAny_setField_rec hz (by simp) fun h₁ hz₁ hs₁ => ?_)
  replace hz₁ : IsZip h₁ z TI TO .ellipsis := hz₁
  refine wpAny_bind ?_
  simp only [List.zipIdx_cons, List.zipIdx_nil, List.forIn_cons, List.forIn_nil]

  refine wpAny_bind (wpAny_bind (wpAny_onRaise ?_))
  show wpAny _ _ (Builtin.SmallTypes.nextOf (.ref i1) >>= _) _ _ _
  refine wpAny_bind (nextOf_K_item (h1.extBut hs₁.extBut D.i1z) (hl1.extBut hs₁.extBut D.l1z) hx fun h₂ h1₂ hs₂ => wpAny_pure ?_)
  have hTO₂ : IsPair h₂ TO a b := hs₂.extBut _ _ D.TOi1 (hs₁.extBut _ _ D.TOz hTO)
  refine wpAny_bind (wpAny_seqItems hTO₂ rfl ?_)
  refine wpAny_bind (wpAny_updateSeq_pair hTO₂ fun h₃ hTO₃ hs₃ => ?_)
  replace hTO₃ : IsPair h₃ TO x b := hTO₃
  refine wpAny_bind (wpAny_letGo (wpAny_pure ?_))

  refine wpAny_bind (wpAny_bind (wpAny_onRaise ?_))
  show wpAny _ _ (Builtin.SmallTypes.nextOf (.ref i2) >>= _) _ _ _
  refine wpAny_bind (nextOf_K_item (((h2.extBut hs₁.extBut D.i2z).extBut hs₂.extBut D.i12.symm).extBut hs₃.extBut D.TOi2.symm)
    (((hl2.extBut hs₁.extBut D.l2z).extBut hs₂.extBut D.l2i1).extBut hs₃.extBut D.l2TO) hy fun h₄ h2₄ hs₄ => wpAny_pure ?_)
  have hTO₄ : IsPair h₄ TO x b := hs₄.extBut _ _ D.TOi2 hTO₃
  refine wpAny_bind (wpAny_seqItems hTO₄ rfl ?_)
  refine wpAny_bind (wpAny_updateSeq_pair hTO₄ fun h₅ hTO₅ hs₅ => ?_)
  replace hTO₅ : IsPair h₅ TO x y := hTO₅
  refine wpAny_bind (wpAny_letGo (wpAny_pure (wpAny_pure ?_)))

  refine wpAny_bind (wpAny_seqItems hTO₅ rfl ?_)
  refine wpAny_bind (wpAny_newTuple ?_)
  have hsz : h₅.objs.size = s.heap.objs.size := by rw [hs₅.1, hs₄.1, hs₃.1, hs₂.1, hs₁.1]
  have hz₅ : IsZip h₅ z TI TO .ellipsis := hs₅.extBut _ _ D.TOz.symm (hs₄.extBut _ _ D.i2z.symm (hs₃.extBut _ _ D.TOz.symm (hs₂.extBut _ _ D.i1z.symm hz₁)))
  have hk₅ : ∀ c o, c ≠ z → c ≠ TO → c ≠ i1 → c ≠ i2 → s.heap.get? c = some o → h₅.get? c = some o := fun c o c1 c2 c3 c4 e =>
    hs₅.extBut _ _ c2 (hs₄.extBut _ _ c4 (hs₃.extBut _ _ c2 (hs₂.extBut _ _ c3 (hs₁.extBut _ _ c1 e))))
  have h1₅ : ItK a1 h₅ i1 l1 (k1 + 1) := ((h1₂.extBut hs₃.extBut D.TOi1.symm).extBut hs₄.extBut D.i12).extBut hs₅.extBut D.TOi1.symm
  have h2₅ : ItK a2 h₅ i2 l2 (k2 + 1) := h2₄.extBut hs₅.extBut D.TOi2.symm
  have hzlt : z < h₅.objs.size := Heap.lt_size hz₅
  have hTOlt : TO < h₅.objs.size := Heap.lt_size hTO₅
  have hi1lt : i1 < h₅.objs.size := h1₅.lt
  have hi2lt : i2 < h₅.objs.size := h2₅.lt
  show wpAny _ _ (Builtin.SmallTypes.ownedTupleHandOut (.ref z) (.ref h₅.objs.size) >>= _) _ _ _
  refine wpAny_bind ?_
  unfold Builtin.SmallTypes.ownedTupleHandOut
  have hz₆ : IsZip (h₅.push { cls := .type "tuple", data := .seq #[x, y] }) z TI TO .ellipsis := Heap.get?_push_of_some _ hz₅
  refine wpAny_bind (wpAny_setField_rec hz₆ (by simp) fun h₇ hz₇ hs₇ => ?_)
  replace hz₇ : IsZip h₇ z TI TO (rawInt h₅.objs.size) := hz₇
  refine wpAny_setField_rec hz₇ (by simp) fun h₈ hz₈ hs₈ => ?_
  replace hz₈ : IsZip h₈ z TI TO (rawInt h₅.objs.size) := hz₈
  have up : ∀ c o, c ≠ z → h₅.get? c = some o → h₈.get? c = some o := fun c o c1 e => hs₈.extBut _ _ c1 (hs₇.extBut _ _ c1 (Heap.get?_push_of_some _ e))
  have hT₈ : IsPair h₈ h₅.objs.size x y := hs₈.extBut _ _ (Nat.ne_of_gt hzlt) (hs₇.extBut _ _ (Nat.ne_of_gt hzlt) (Heap.get?_push_size _ rfl))
  have hz8 : h₈.objs.size = h₅.objs.size + 1 := by rw [hs₈.1, hs₇.1, Heap.size_push]
  rw [hsz] at hz₈ hT₈ hz8
  refine wpAny_pure ⟨_, rfl, ?_⟩
  show Q (.ref h₅.objs.size) _
  rw [hsz]
  exact hQ h₈ hz₈ (up _ _ D.TOz hTO₅) (h1₅.at fun o e => up _ o D.i1z e) (h2₅.at fun o e => up _ o D.i2z e) hT₈ hz8 fun c o c1 c2 c3 c4 e => up c o c1 (hk₅ c o c1 c2 c3 c4 e)

theorem zipK_next_end {z TI TO i1 i2 l1 l2 : Addr} {a1 a2 : Bool} {k1 k2 : Nat} {xs ys : Array Value} {a b : Value} {Q : Fin → Shared → Prop} (hh : A.handled = none) (D : ZipApart z TI TO i1 i2 l1 l2)
    (hz : IsZip s.heap z TI TO .none) (hTI : IsPair s.heap TI (.ref i1) (.ref i2)) (hTO : IsPair s.heap TO a b)
    (h1 : ItK a1 s.heap i1 l1 k1) (h2 : ItK a2 s.heap i2 l2 k2) (hl1 : SqK a1 s.heap l1 xs) (hl2 : SqK a2 s.heap l2 ys) (hend : xs[k1]? = none ∨ ys[k2]? = none)
    (hE : ∀ h' e, (∀ c o, c ≠ z → c ≠ TO → c ≠ i1 → c ≠ i2 → s.heap.get? c = some o → h'.get? c = some o) → (∃ o, h'.get? e = some o ∧ o.cls = .type "StopIteration") → E (.ref e) { s with heap := h' }) :
    wpAny (model prog w) A (Builtin.«zip.__next__» ⟨[.ref z], []⟩) Q E s := by
  show wpAny _ _ (field (.ref z) 2 >>= _) _ _ _
  refine wpAny_bind (wpAny_field hz rfl (x := .bool false) rfl ?_)
  show wpAny _ _ (field (.ref z) 3 >>= _) _ _ _
  refine wpAny_bind (wpAny_field hz rfl (x := .ref TI) rfl ?_)
  refine wpAny_bind (wpAny_seqItems hTI rfl ?_)
  show wpAny _ _ (Builtin.SmallTypes.ownedTupleIsFree (.ref z) >>= _) _ _ _
  refine wpAny_bind ?_
  unfold Builtin.SmallTypes.ownedTupleIsFree
  refine wpAny_bind (wpAny_field hz rfl (x := .none) rfl (wpAny_pure ?_))
  simp only [if_true]
  refine wpAny_bind (wpAny_rule ?_)
  refine wpAny_bind (wpAny_field hz rfl (x := .ref TO) rfl ?_)
  refine wpAny_bind (wpAny_setField_rec hz (by simp) fun h₁ hz₁ hs₁ => ?_)
  replace hz₁ : IsZip h₁ z TI TO .ellipsis := hz₁
  refine wpAny_bind ?_
  simp only [List.zipIdx_cons, List.zipIdx_nil, List.forIn_cons, List.forIn_nil]
  refine wpAny_bind (wpAny_bind (wpAny_onRaise ?_))
  show wpAny _ _ (Builtin.SmallTypes.nextOf (.ref i1) >>= _) _ _ _
  cases hx : xs[k1]? with
  | none =>
    refine wpAny_bind (nextOf_K_end hh (h1.extBut hs₁.extBut D.i1z) (hl1.extBut hs₁.extBut D.l1z) hx fun h₂ e hs₂ he => ?_)
    obtain ⟨oe, hoe, hce⟩ := he
    have hz₂ : IsZip h₂ z TI TO .ellipsis := hs₂ _ _ D.i1z.symm hz₁
    have hez : e ≠ z := fun x => by subst x; rw [hz₂] at hoe; cases hoe; simp at hce
    refine wpAny_setField_rec hz₂ (by simp) fun h₃ _ hs₃ => hE h₃ e (fun c o c1 _ c3 _ x => hs₃.extBut _ _ c1 (hs₂ _ _ c3 (hs₁.extBut _ _ c1 x))) ⟨oe, hs₃.extBut _ _ hez hoe, hce⟩
  | some x =>
    have hy : ys[k2]? = none := by rcases hend with h | h; rw [hx] at h; cases h; exact h
    refine wpAny_bind (nextOf_K_item (h1.extBut hs₁.extBut D.i1z) (hl1.extBut hs₁.extBut D.l1z) hx fun h₂ h1₂ hs₂ => wpAny_pure ?_)
    have hTO₂ : IsPair h₂ TO a b := hs₂.extBut _ _ D.TOi1 (hs₁.extBut _ _ D.TOz hTO)
    refine wpAny_bind (wpAny_seqItems hTO₂ rfl ?_)
    refine wpAny_bind (wpAny_updateSeq_pair hTO₂ fun h₃ hTO₃ hs₃ => ?_)
    refine wpAny_bind (wpAny_letGo (wpAny_pure ?_))
    refine wpAny_bind (wpAny_bind (wpAny_onRaise ?_))
    show wpAny _ _ (Builtin.SmallTypes.nextOf (.ref i2) >>= _) _ _ _
    refine wpAny_bind (nextOf_K_end hh (((h2.extBut hs₁.extBut D.i2z).extBut hs₂.extBut D.i12.symm).extBut hs₃.extBut D.TOi2.symm)
      (((hl2.extBut hs₁.extBut D.l2z).extBut hs₂.extBut D.l2i1).extBut hs₃.extBut D.l2TO) hy fun h₄ e hs₄ he => ?_)
    obtain ⟨oe, hoe, hce⟩ := he
    have hz₄ : IsZip h₄ z TI TO .ellipsis := hs₄ _ _ D.i2z.symm (hs₃.extBut _ _ D.TOz.symm (hs₂.extBut _ _ D.i1z.symm hz₁))
    have hez : e ≠ z := fun x => by subst x; rw [hz₄] at hoe; cases hoe; simp at hce
    refine wpAny_setField_rec hz₄ (by simp) fun h₅ _ hs₅ => hE h₅ e (fun c o c1 c2 c3 c4 x => hs₅.extBut _ _ c1 (hs₄ _ _ c4 (hs₃.extBut _ _ c2 (hs₂.extBut _ _ c3 (hs₁.extBut _ _ c1 x))))) ⟨oe, hs₅.extBut _ _ hez hoe, hce⟩

theorem pyNext_zipK_item {z TI TO i1 i2 l1 l2 : Addr} {a1 a2 : Bool} {k1 k2 : Nat} {xs ys : Array Value} {x y a b : Value} {Q : Option Value → Shared → Prop} (D : ZipApart z TI TO i1 i2 l1 l2)
    (hz : IsZip s.heap z TI TO .none) (hTI : IsPair s.heap TI (.ref i1) (.ref i2)) (hTO : IsPair s.heap TO a b)
    (h1 : ItK a1 s.heap i1 l1 k1) (h2 : ItK a2 s.heap i2 l2 k2) (hl1 : SqK a1 s.heap l1 xs) (hl2 : SqK a2 s.heap l2 ys) (hx : xs[k1]? = some x) (hy : ys[k2]? = some y)
    (hQ : ∀ h', IsZip h' z TI TO (rawInt s.heap.objs.size) → IsPair h' TO x y → ItK a1 h' i1 l1 (k1 + 1) → ItK a2 h' i2 l2 (k2 + 1) → IsPair h' s.heap.objs.size x y → h'.objs.size = s.heap.objs.size + 1 →
      (∀ c o, c ≠ z → c ≠ TO → c ≠ i1 → c ≠ i2 → s.heap.get? c = some o → h'.get? c = some o) → Q (some (.ref s.heap.objs.size)) { s with heap := h' }) :
    wpAny (model prog w) A (pyNext (.ref z)) Q E s := by
  have hT : s.TypeIs (.ref z) "zip" := ⟨_, hz, rfl⟩
  unfold pyNext
  exact wpAny_bind (wpAny_attempt (wpAny_callSpecial?_slot (name := Str.ofString "__next__") hT PySem.F.slot_zip_next
    (wpAny_call_entry PySem.F.slot_zip_next hT PySem.F.entry_zip_next
      (zipK_next_item D hz hTI hTO h1 h2 hl1 hl2 hx hy fun h' a1 a2 a3 a4 a5 a6 a7 => wpAny_pure (hQ h' a1 a2 a3 a4 a5 a6 a7)) (PySem.F.args_zip_next_1 _))))

theorem pyNext_zipK_end {z TI TO i1 i2 l1 l2 : Addr} {a1 a2 : Bool} {k1 k2 : Nat} {xs ys : Array Value} {a b : Value} {Q : Option Value → Shared → Prop} (hh : A.handled = none) (D : ZipApart z TI TO i1 i2 l1 l2)
    (hz : IsZip s.heap z TI TO .none) (hTI : IsPair s.heap TI (.ref i1) (.ref i2)) (hTO : IsPair s.heap TO a b)
    (h1 : ItK a1 s.heap i1 l1 k1) (h2 : ItK a2 s.heap i2 l2 k2) (hl1 : SqK a1 s.heap l1 xs) (hl2 : SqK a2 s.heap l2 ys) (hend : xs[k1]? = none ∨ ys[k2]? = none)
    (hQ : ∀ h', (∀ c o, c ≠ z → c ≠ TO → c ≠ i1 → c ≠ i2 → s.heap.get? c = some o → h'.get? c = some o) → Q none { s with heap := h' }) : wpAny (model prog w) A (pyNext (.ref z)) Q E s := by
  have hT : s.TypeIs (.ref z) "zip" := ⟨_, hz, rfl⟩
  unfold pyNext
  refine wpAny_bind (wpAny_attempt (wpAny_callSpecial?_slot (name := Str.ofString "__next__") hT PySem.F.slot_zip_next
    (wpAny_call_entry PySem.F.slot_zip_next hT PySem.F.entry_zip_next (zipK_next_end hh D hz hTI hTO h1 h2 hl1 hl2 hend fun h' e hk he => ?_) (PySem.F.args_zip_next_1 _))))
  obtain ⟨o, ho, hc⟩ := he
  refine wpAny_bind (wpAny_isInstance (T := "StopIteration") (b := true) ⟨o, ho, hc⟩ isSubtype_stop ?_)
  exact wpAny_pure (hQ _ hk)

abbrev zk1 (a1 : Bool) (h : Heap) (l1 : Addr) : Heap := h.push { cls := .type (itN a1), data := .fields #[.ref l1, .int 0 0] }
abbrev zk2 (a1 a2 : Bool) (h : Heap) (l1 l2 : Addr) : Heap := (zk1 a1 h l1).push { cls := .type (itN a2), data := .fields #[.ref l2, .int 0 0] }
abbrev zk3 (a1 a2 : Bool) (h : Heap) (l1 l2 : Addr) : Heap := (zk2 a1 a2 h l1 l2).push { cls := .type "tuple", data := .seq #[.ref h.objs.size, .ref (zk1 a1 h l1).objs.size] }
abbrev zk4 (a1 a2 : Bool) (h : Heap) (l1 l2 : Addr) : Heap := (zk3 a1 a2 h l1 l2).push { cls := .type "tuple", data := .seq #[.none, .none] }
abbrev zk5 (a1 a2 : Bool) (h : Heap) (l1 l2 : Addr) : Heap := (zk4 a1 a2 h l1 l2).push { cls := .type "zip", data := .fields #[.none, .bool false, .bool false, .ref (zk2 a1 a2 h l1 l2).objs.size, .ref (zk3 a1 a2 h l1 l2).objs.size] }
theorem meets_zipK_new (a1 a2 : Bool) (l1 l2 : Addr) (xs ys : Array Value) :
    Meets (Builtin.«zip.__new__» ⟨[.type "zip", .ref l1, .ref l2], []⟩) (fun _ R s => SqK a1 s.heap l1 xs ∧ SqK a2 s.heap l2 ys ∧
      R (.ok (.ret (.ref (zk4 a1 a2 s.heap l1 l2).objs.size))) { s with heap := zk5 a1 a2 s.heap l1 l2 }) :=
  .of_wp fun prog w A R s h => by
    obtain ⟨hp, g, d, tk, os⟩ := s; obtain ⟨hl1, hl2, h⟩ := h
    have hsub := sub_zip
    have hL1 : SqK a1 (Shared.heap ⟨hp, g, d, tk, os⟩) l1 xs := hl1
    have hL2 : SqK a2 (Shared.heap ⟨hp.push { cls := .type (itN a1), data := .fields #[.ref l1, .int 0 0] }, g, d, tk, os⟩) l2 ys := SqK.push hl2 _
    wp_walk using pyIter_K hL1, pyIter_K hL2
    exact ⟨_, rfl, h⟩
theorem call_zipK {a1 a2 : Bool} {l1 l2 : Addr} {xs ys : Array Value} {Q : Value → Shared → Prop} (hl1 : SqK a1 s.heap l1 xs) (hl2 : SqK a2 s.heap l2 ys)
    (h : ∀ h', IsZip h' (s.heap.objs.size + 4) (s.heap.objs.size + 2) (s.heap.objs.size + 3) .none → IsPair h' (s.heap.objs.size + 2) (.ref s.heap.objs.size) (.ref (s.heap.objs.size + 1)) →
      IsPair h' (s.heap.objs.size + 3) .none .none → ItK a1 h' s.heap.objs.size l1 0 → ItK a2 h' (s.heap.objs.size + 1) l2 0 → h'.objs.size = s.heap.objs.size + 5 →
      (∀ c o, s.heap.get? c = some o → h'.get? c = some o) → Q (.ref (s.heap.objs.size + 4)) { s with heap := h' }) :
    wpAny (model prog w) A (call (.type "zip") [.ref l1, .ref l2]) Q E s := by
  refine callType_new PySem.F.called_zip (by decide) (PySem.F.typeCall_zip_2 _ _) (PySem.F.newCall_zip_2 _ _) (fun obj => PySem.F.args_object_init_3 obj _ _) PySem.F.entry_zip_new
    (meets_zipK_new a1 a2 l1 l2 xs ys) ⟨hl1, hl2, ?_⟩
  have z1 : (zk1 a1 s.heap l1).objs.size = s.heap.objs.size + 1 := Heap.size_push ..
  have z2 : (zk2 a1 a2 s.heap l1 l2).objs.size = s.heap.objs.size + 2 := by rw [Heap.size_push, z1]
  have z3 : (zk3 a1 a2 s.heap l1 l2).objs.size = s.heap.objs.size + 3 := by rw [Heap.size_push, z2]
  have z4 : (zk4 a1 a2 s.heap l1 l2).objs.size = s.heap.objs.size + 4 := by rw [Heap.size_push, z3]
  have z5 : (zk5 a1 a2 s.heap l1 l2).objs.size = s.heap.objs.size + 5 := by rw [Heap.size_push, z4]
  have g5 : (zk5 a1 a2 s.heap l1 l2).get? (zk4 a1 a2 s.heap l1 l2).objs.size = some _ := Heap.get?_push_size _ rfl
  have g4 : (zk5 a1 a2 s.heap l1 l2).get? (zk3 a1 a2 s.heap l1 l2).objs.size = some _ := Heap.get?_push_of_some _ (Heap.get?_push_size _ rfl)
  have g3 : (zk5 a1 a2 s.heap l1 l2).get? (zk2 a1 a2 s.heap l1 l2).objs.size = some _ := Heap.get?_push_of_some _ (Heap.get?_push_of_some _ (Heap.get?_push_size _ rfl))
  have g2 : (zk5 a1 a2 s.heap l1 l2).get? (zk1 a1 s.heap l1).objs.size = some _ := Heap.get?_push_of_some _ (Heap.get?_push_of_some _ (Heap.get?_push_of_some _ (Heap.get?_push_size _ (by cases a2 <;> rfl))))
  have g1 : (zk5 a1 a2 s.heap l1 l2).get? s.heap.objs.size = some _ := Heap.get?_push_of_some _ (Heap.get?_push_of_some _ (Heap.get?_push_of_some _ (Heap.get?_push_of_some _ (Heap.get?_push_size _ (by cases a1 <;> rfl)))))
  show _ ∧ _
  rw [z2, z3, z4] at g5
  rw [z1, z2] at g3
  rw [z3] at g4
  rw [z1] at g2
  rw [z4]
  refine ⟨⟨_, g5, rfl⟩, h _ g5 g3 g4 ?_ ?_ z5 fun c o x =>
    Heap.get?_push_of_some _ (Heap.get?_push_of_some _ (Heap.get?_push_of_some _ (Heap.get?_push_of_some _ (Heap.get?_push_of_some _ x))))⟩
  · cases a1 <;> exact ⟨_, g1, rfl, rfl⟩
  · cases a2 <;> exact ⟨_, g2, rfl, rfl⟩
/-! enumerate -/
theorem Draws.K {k : Bool} (hh : A.handled = none) (it l : Addr) (hne : l ≠ it) (items : Array Value) :
    Draws prog w A it [it, l] items.size (fun i v => items[i]? = some v) (fun i h => ItK k h it l i ∧ SqK k h l items) where
  live := fun _ _ st => let ⟨o, ho, _⟩ := st.1.rec'; ⟨o, ho⟩
  frame := fun _ _ _ st hk => ⟨st.1.at fun o e => hk it (by simp) o e, st.2.at fun o e => hk l (by simp) o e⟩
  item := fun i s Q E hi st hQ => by
    refine nextOf_K_item st.1 st.2 (x := items[i]) (by simp [hi]) fun h' hit' hs' => ?_
    exact hQ _ h' s.toks (by simp [hi]) ⟨hit', st.2.extBut hs'.extBut hne⟩ hs'
  done := fun s Q E st hE => nextOf_K_end hh st.1 st.2 (by simp) hE
end
theorem meets_enumK_new (k : Bool) (l : Addr) (items : Array Value) :
    Meets (Builtin.«enumerate.__new__» ⟨[.type "enumerate", .ref l], []⟩) (fun _ R s => SqK k s.heap l items ∧
      R (.ok (.ret (.ref (s.heap.push { cls := .type (itN k), data := .fields #[.ref l, .int 0 0] }).objs.size)))
        { s with heap := (s.heap.push { cls := .type (itN k), data := .fields #[.ref l, .int 0 0] }).push { cls := .type "enumerate", data := .fields #[.none, .bool false, .ref s.heap.objs.size, rawInt 0, .none, .none] } }) :=
  .of_wp fun prog w A R s h => by
    obtain ⟨hp, g, d, tk, os⟩ := s; obtain ⟨hl, h⟩ := h
    have hsub := sub_enumerate
    have hL : SqK k (Shared.heap ⟨hp, g, d, tk, os⟩) l items := hl
    wp_walk
    refine wpAny_stack_any fun st => wpAny_pure ?_
    split
    · rename_i c _ _ _ _ _
      cases (c == Value.type "enumerate")
      · wp_walk using pyIter_K hL
        exact ⟨_, rfl, h⟩
      · wp_walk using pyIter_K hL
        exact ⟨_, rfl, h⟩
    · wp_walk using pyIter_K hL
      exact ⟨_, rfl, h⟩
section
variable {prog : Program} {w : World} {A : Around} {E : Value → Shared → Prop} {s : Shared}
theorem call_enumK {k : Bool} {l : Addr} {items : Array Value} {Q : Value → Shared → Prop} (hL : SqK k s.heap l items)
    (h : ∀ h', IsEnum h' (s.heap.objs.size + 1) s.heap.objs.size 0 .none → ItK k h' s.heap.objs.size l 0 → h'.objs.size = s.heap.objs.size + 2 →
      (∀ b o, s.heap.get? b = some o → h'.get? b = some o) → Q (.ref (s.heap.objs.size + 1)) { s with heap := h' }) :
    wpAny (model prog w) A (call (.type "enumerate") [.ref l]) Q E s := by
  refine callType_new PySem.F.called_enumerate (by decide) (PySem.F.typeCall_enumerate_1 _) (PySem.F.newCall_enumerate_1 _) (fun obj => PySem.F.args_object_init_2 obj _) PySem.F.entry_enumerate_new
    (meets_enumK_new k l items) ⟨hL, ?_⟩
  have hz : (s.heap.push { cls := .type (itN k), data := .fields #[.ref l, .int 0 0] }).objs.size = s.heap.objs.size + 1 := Heap.size_push ..
  show _ ∧ _
  rw [hz]
  have he : IsEnum ((s.heap.push { cls := .type (itN k), data := .fields #[.ref l, .int 0 0] }).push
      { cls := .type "enumerate", data := .fields #[.none, .bool false, .ref s.heap.objs.size, rawInt 0, .none, .none] }) (s.heap.objs.size + 1) s.heap.objs.size 0 .none := by
    have := Heap.get?_push_size (s.heap.push { cls := .type (itN k), data := .fields #[.ref l, .int 0 0] })
      (o := { cls := .type "enumerate", data := .fields #[.none, .bool false, .ref s.heap.objs.size, rawInt 0, .none, .none] }) rfl
    rw [hz] at this; exact this
  refine ⟨⟨_, he, rfl⟩, h _ he ?_ (by rw [Heap.size_push, hz]) fun b o x => Heap.get?_push_of_some _ (Heap.get?_push_of_some _ x)⟩
  cases k <;> exact ⟨_, Heap.get?_push_of_some _ (Heap.get?_push_size _ rfl), rfl, rfl⟩
end
end SWS
end
section
set_option maxRecDepth 100000
/-! What loops go along: by values. -/
namespace SWS
open PySem PySem.Spec PyProof.Rows L2
open SW (PV Val MO Ky Mem Res M E OF Cn Pat Fl view flat flats ofO bin2)
def SqV (K : Fg) (k : Bool) (H : Hp) (a : Addr) (xs : List V) : Prop := match k with | true => SqL K H a xs | false => SqT K H a xs
section
variable {X : Cx} {pins : List (Addr × Obj)} {σ : L2.St} {H : Hp} {s : Shared} {k : Bool} {a : Addr} {xs ys : List V}
theorem Inv.seqV (I : Inv X pins σ H s) (h : SqV X.K k H a xs) : ∃ its : List Value, Vals xs its ∧ SqK k s.heap a its.toArray ∧ xs.length ≤ sizeLine := by
  cases k
  · obtain ⟨its, r, p, z⟩ := I.tuple h; exact ⟨its, r, p, z⟩
  · obtain ⟨its, r, p, z⟩ := I.list h; exact ⟨its, r, p.isList, z⟩
theorem Inv.seqV_inj (I : Inv X pins σ H s) (h : SqV X.K k H a xs) (h' : SqV X.K k H a ys) : xs = ys := by
  cases k
  · exact I.tuple_inj h h'
  · exact I.list_inj h h'
end
theorem SqK.cls {k : Bool} {h : Heap} {l : Addr} {xs : Array Value} (x : SqK k h l xs) : ∃ o, h.get? l = some o ∧ o.cls = .type (match k with | true => "list" | false => "tuple") := by
  cases k
  · obtain ⟨o, ho, hc, _⟩ := x; exact ⟨o, ho, hc⟩
  · obtain ⟨o, ho, hc, _⟩ := x; exact ⟨o, ho, hc⟩
theorem SqK.ne_it {k k' : Bool} {h : Heap} {l it l' : Addr} {xs : Array Value} {i : Nat} (x : SqK k h l xs) (y : ItK k' h it l' i) : l ≠ it := by
  rintro rfl
  obtain ⟨o, h1, h2⟩ := x.cls
  obtain ⟨o', h3, h4, _⟩ := y.rec'
  rw [h1] at h3; cases h3
  rw [h2] at h4
  cases k <;> cases k' <;> simp [itN] at h4
theorem SqK.ne_enum {k : Bool} {h : Heap} {l e it : Addr} {xs : Array Value} {i : Int} {old : Value} (x : SqK k h l xs) (y : IsEnum h e it i old) : e ≠ l := by
  rintro rfl
  obtain ⟨o, h1, h2⟩ := x.cls
  rw [y] at h1; cases h1
  cases k <;> simp at h2
/-- each item in a new pair behind its number -/
def IteK (K : Fg) (k : Bool) (a : Addr) : L2.It :=
  ⟨fun i H => ∃ (xs : List V) (x : V), SqV K k H a xs ∧ xs[i]? = some x, fun i H v H' => ∃ T x, v = .ref T ∧ H T = none ∧ H' = upd H T (.tup [.int (i : Nat), x]) ∧ ∀ xs, SqV K k H a xs → xs[i]? = some x, fun i H => ∃ xs : List V, SqV K k H a xs ∧ xs.length = i⟩
theorem turn_enumK {P : Program} {w : World} {K : Fg} {k : Bool} {elts : List Expr} {kk : Nat} {tpos : Pos} (a e it : Addr) :
    Turn P w K (.Tuple elts kk tpos) (IteK K k a) [e, it] e (fun i h => (∃ old, IsEnum h e it ((i : Nat) : Int) old) ∧ ItK k h it a i ∧ e ≠ it) where
  mem := by simp
  obj := fun i h st b hb => by
    obtain ⟨⟨old, he⟩, hi, _⟩ := st
    obtain ⟨o, ho, hc, hd⟩ := hi.rec'
    have e' : b = e ∨ b = it := by simpa using hb
    rcases e' with z | z
    · rw [z]; exact ⟨_, he, fun v q => nomatch q⟩
    · rw [z]; exact ⟨o, ho, fun v q => by rw [hd] at q; cases q⟩
  keep := fun i h h' st kp => let ⟨⟨old, he⟩, hi, hne⟩ := st; ⟨⟨old, kp e (by simp) _ he⟩, hi.at fun o q => kp it (by simp) o q, hne⟩
  item := by
    intro X hP hw hK hc i pins s σ H E I hf st hg
    subst hP hw hK
    obtain ⟨⟨old, he⟩, hit, hne⟩ := st
    obtain ⟨xs, x, hq, hx⟩ := hg
    obtain ⟨its, rv, p, hz⟩ := Inv.seqV I hq
    obtain ⟨u, hu, ru⟩ := rv.get hx
    have hel : e < s.heap.objs.size := Heap.lt_size he
    have hil : it < s.heap.objs.size := hit.lt
    have hlt : i < its.toArray.size := by
      have := (List.getElem?_eq_some_iff.mp hu).1
      simpa using this
    refine wpAny_pyNext_enum_itemD (Draws.K (A := X.A.in1) (I.ok.hd hc) it a (p.ne_it hit) its.toArray) he ⟨hit, p⟩ hlt hne (by simp only [List.mem_cons, List.not_mem_nil, or_false, not_or]; exact ⟨hne, p.ne_enum he⟩) fun x' h' tk hP ho hs' hT hsz hk => ?_
    have hxu : x' = u := by
      have : its.toArray[i]? = some u := by simpa using hu
      have hP : its.toArray[i]? = some x' := hP
      rw [this] at hP
      exact (Option.some.inj hP).symm
    subst hxu
    refine ⟨_, rfl, wpAny_letOwnedTupleGo_enum (s := { s with heap := h', toks := tk + 1 }) ho fun h'' he' sb => ?_⟩
    have hT2 : h''.get? s.heap.objs.size = some { cls := .type "tuple", data := .seq #[.int i tk, x'] } := (sb.2 _ (Nat.ne_of_gt hel)).trans hT
    have new : ObjOk X.prog X.w (upd H s.heap.objs.size (.tup [.int (i : Nat), x])) h'' s.heap.objs.size (.tup [.int (i : Nat), x]) :=
      ⟨by show 2 ≤ sizeLine; decide, [.int i tk, x'], .cons ⟨_, rfl⟩ (.cons ru .nil), ⟨_, hT2, rfl, _, rfl⟩⟩
    have I1 : Inv X pins σ (upd H s.heap.objs.size (.tup [.int (i : Nat), x])) { s with heap := h'', toks := tk + 1 } :=
      I.turnedNew (ch := [e, it]) (fun b ob hb q => (sb.2 b (fun z => hb (by simp [z]))).trans (hk b ob (fun z => hb (by simp [z])) (fun z => hb (by simp [z])) q)) hf (Nat.le_refl _) new
    refine ⟨.ref s.heap.objs.size, _, I1, rfl, ⟨_, x, rfl, I.hok.fresh (Nat.le_refl _), rfl, fun ys hy => by rw [Inv.seqV_inj I hy hq]; exact hx⟩, ⟨⟨x', ?_⟩, hs'.1.at fun o q => (sb.2 it (Ne.symm hne)).trans q, hne⟩, fun b hb => ?_⟩
    · have e1 : ((i + 1 : Nat) : Int) = (i : Int) + 1 := by omega
      rw [e1]; exact he'
    · have hb' : b < s.heap.objs.size := by
        have e' : b = e ∨ b = it := by simpa using hb
        rcases e' with z | z
        · rw [z]; exact hel
        · rw [z]; exact hil
      rw [upd_ne (Nat.ne_of_lt hb')]
      exact (hf b hb).1
  done := by
    intro X hP hw hK hc i pins s σ H E I hf st hg
    subst hP hw hK
    obtain ⟨⟨old, he⟩, hit, hne⟩ := st
    obtain ⟨xs, hq, hx⟩ := hg
    obtain ⟨its, rv, p, hz⟩ := Inv.seqV I hq
    obtain ⟨f0, f1, f2, f3, f4, f5⟩ := hf it (by simp)
    have hl := rv.length
    have hi : its.toArray.size = i := by rw [List.size_toArray]; omega
    subst hi
    exact wpAny_pyNext_enum_endD (Draws.K (A := X.A.in1) (I.ok.hd hc) it a (p.ne_it hit) its.toArray) he ⟨hit, p⟩ fun h' eb => ⟨rfl, I.turned (t' := s.toks) (fun b o hb q => eb b o hb q) f0 f1 f3 f4 f5⟩
  self := fun A i s Q E st h => let ⟨⟨_, he⟩, _⟩ := st; wpAny_pyIter_enum he h
/-- enumerate of a text -/
def IteS (x : Str) : L2.It :=
  ⟨fun i _ => i < x.cps.size, fun i H v H' => ∃ T c, v = .ref T ∧ H T = none ∧ H' = upd H T (.tup [.int (i : Nat), .str ⟨#[c]⟩]) ∧ x.cps[i]? = some c, fun i _ => x.cps.size = i⟩
theorem draws_S {prog : Program} {w : World} {A : Around} (hh : A.handled = none) (it : Addr) (x : Str) (t : Tok) :
    Draws prog w A it [it] x.cps.size (fun i v => ∃ c u, x.cps[i]? = some c ∧ v = .str ⟨#[c]⟩ u) (fun i h => h.IsStrIter it (strIterType x) x t i) := by
  unfold strIterType
  cases x.cps.all (· < 128)
  · exact Draws.strWide hh it x t
  · exact Draws.strAscii hh it x t
theorem turn_enumS {P : Program} {w : World} {K : Fg} {elts : List Expr} {kk : Nat} {tpos : Pos} (x : Str) (t : Tok) (e it : Addr) :
    Turn P w K (.Tuple elts kk tpos) (IteS x) [e, it] e (fun i h => (∃ old, IsEnum h e it ((i : Nat) : Int) old) ∧ h.IsStrIter it (strIterType x) x t i ∧ e ≠ it) where
  mem := by simp
  obj := fun i h st b hb => by
    obtain ⟨⟨old, he⟩, ⟨o, ho, hc, hd⟩, _⟩ := st
    have e' : b = e ∨ b = it := by simpa using hb
    rcases e' with z | z
    · rw [z]; exact ⟨_, he, fun v q => nomatch q⟩
    · rw [z]; exact ⟨o, ho, fun v q => by rw [hd] at q; cases q⟩
  keep := fun i h h' st kp => let ⟨⟨old, he⟩, ⟨o, ho, r⟩, hne⟩ := st; ⟨⟨old, kp e (by simp) _ he⟩, ⟨o, kp it (by simp) o ho, r⟩, hne⟩
  item := by
    intro X hP hw hK hc i pins s σ H E I hf st hg
    subst hP hw hK
    obtain ⟨⟨old, he⟩, hit, hne⟩ := st
    have hel : e < s.heap.objs.size := Heap.lt_size he
    have hil : it < s.heap.objs.size := by obtain ⟨_, q, _⟩ := hit; exact Heap.lt_size q
    refine wpAny_pyNext_enum_itemD (draws_S (A := X.A.in1) (I.ok.hd hc) it x t) he hit hg hne (by simpa using hne) fun x' h' tk hP ho hs' hT hsz hk => ?_
    obtain ⟨c, tu, hcx, rfl⟩ := hP
    refine ⟨_, rfl, wpAny_letOwnedTupleGo_enum (s := { s with heap := h', toks := tk + 1 }) ho fun h'' he' sb => ?_⟩
    have hT2 : h''.get? s.heap.objs.size = some { cls := .type "tuple", data := .seq #[.int i tk, .str ⟨#[c]⟩ tu] } := (sb.2 _ (Nat.ne_of_gt hel)).trans hT
    have new : ObjOk X.prog X.w (upd H s.heap.objs.size (.tup [.int (i : Nat), .str ⟨#[c]⟩])) h'' s.heap.objs.size (.tup [.int (i : Nat), .str ⟨#[c]⟩]) :=
      ⟨by show 2 ≤ sizeLine; decide, [.int i tk, .str ⟨#[c]⟩ tu], .cons ⟨_, rfl⟩ (.cons ⟨_, rfl⟩ .nil), ⟨_, hT2, rfl, _, rfl⟩⟩
    have I1 : Inv X pins σ (upd H s.heap.objs.size (.tup [.int (i : Nat), .str ⟨#[c]⟩])) { s with heap := h'', toks := tk + 1 } :=
      I.turnedNew (ch := [e, it]) (fun b ob hb q => (sb.2 b (fun z => hb (by simp [z]))).trans (hk b ob (fun z => hb (by simp [z])) (fun z => hb (by simp [z])) q)) hf (Nat.le_refl _) new
    refine ⟨.ref s.heap.objs.size, _, I1, rfl, ⟨_, c, rfl, I.hok.fresh (Nat.le_refl _), rfl, hcx⟩, ⟨⟨.str ⟨#[c]⟩ tu, ?_⟩, ?_, hne⟩, fun b hb => ?_⟩
    · have e1 : ((i + 1 : Nat) : Int) = (i : Int) + 1 := by omega
      rw [e1]; exact he'
    · obtain ⟨o, ho2, r⟩ := hs'
      exact ⟨o, (sb.2 it (Ne.symm hne)).trans ho2, r⟩
    · have hb' : b < s.heap.objs.size := by
        have e' : b = e ∨ b = it := by simpa using hb
        rcases e' with z | z
        · rw [z]; exact hel
        · rw [z]; exact hil
      rw [upd_ne (Nat.ne_of_lt hb')]
      exact (hf b hb).1
  done := by
    intro X hP hw hK hc i pins s σ H E I hf st hg
    subst hP hw hK
    obtain ⟨⟨old, he⟩, hit, hne⟩ := st
    obtain ⟨f0, f1, f2, f3, f4, f5⟩ := hf it (by simp)
    have hg : x.cps.size = i := hg
    subst hg
    exact wpAny_pyNext_enum_endD (draws_S (A := X.A.in1) (I.ok.hd hc) it x t) he hit fun h' eb => ⟨rfl, I.turned (t' := s.toks) (fun b o hb q => eb b o hb q) f0 f1 f3 f4 f5⟩
  self := fun A i s Q E st h => let ⟨⟨_, he⟩, _⟩ := st; wpAny_pyIter_enum he h
/-- two sequences, the items in new pairs -/
def ItzK (K : Fg) (k1 k2 : Bool) (a b : Addr) : L2.It :=
  ⟨fun i H => ∃ (xs ys : List V) (x y : V), SqV K k1 H a xs ∧ SqV K k2 H b ys ∧ xs[i]? = some x ∧ ys[i]? = some y,
    fun i H v H' => ∃ T x y, v = .ref T ∧ H T = none ∧ H' = upd H T (.tup [x, y]) ∧ (∀ xs, SqV K k1 H a xs → xs[i]? = some x) ∧ ∀ ys, SqV K k2 H b ys → ys[i]? = some y,
    fun i H => ∃ xs ys : List V, SqV K k1 H a xs ∧ SqV K k2 H b ys ∧ (xs.length ≤ i ∨ ys.length ≤ i)⟩
theorem turn_zipK {P : Program} {w : World} {K : Fg} {k1 k2 : Bool} {elts : List Expr} {kk : Nat} {tpos : Pos} {a b z TI TO i1 i2 : Addr} (D : ZipApart z TI TO i1 i2 a b) :
    Turn P w K (.Tuple elts kk tpos) (ItzK K k1 k2 a b) [z, TI, TO, i1, i2] z (fun i h => IsZip h z TI TO .none ∧ IsPair h TI (.ref i1) (.ref i2) ∧ (∃ x y, IsPair h TO x y) ∧ ItK k1 h i1 a i ∧ ItK k2 h i2 b i) where
  mem := by simp
  obj := fun i h st c hc => by
    obtain ⟨hz, hTI, ⟨x, y, hTO⟩, q1, q2⟩ := st
    obtain ⟨o1, e1, _, d1⟩ := q1.rec'
    obtain ⟨o2, e2, _, d2⟩ := q2.rec'
    have e' : c = z ∨ c = TI ∨ c = TO ∨ c = i1 ∨ c = i2 := by simpa using hc
    rcases e' with q | q | q | q | q
    · rw [q]; exact ⟨_, hz, fun v q => nomatch q⟩
    · rw [q]; exact ⟨_, hTI, fun v q => nomatch q⟩
    · rw [q]; exact ⟨_, hTO, fun v q => nomatch q⟩
    · rw [q]; exact ⟨o1, e1, fun v q => by rw [d1] at q; cases q⟩
    · rw [q]; exact ⟨o2, e2, fun v q => by rw [d2] at q; cases q⟩
  keep := fun i h h' st k => by
    obtain ⟨hz, hTI, ⟨x, y, hTO⟩, h1, h2⟩ := st
    exact ⟨k z (by simp) _ hz, k TI (by simp) _ hTI, ⟨x, y, k TO (by simp) _ hTO⟩, h1.at fun o q => k i1 (by simp) o q, h2.at fun o q => k i2 (by simp) o q⟩
  item := by
    intro X hP hw hK hc i pins s σ H E I hf st hg
    subst hP hw hK
    obtain ⟨hz, hTI, ⟨x0, y0, hTO⟩, h1, h2⟩ := st
    obtain ⟨xs, ys, x, y, hqx, hqy, hx, hy⟩ := hg
    obtain ⟨its, rv, p, _⟩ := Inv.seqV I hqx
    obtain ⟨its2, rv2, p2, _⟩ := Inv.seqV I hqy
    obtain ⟨u, hu, ru⟩ := rv.get hx
    obtain ⟨u2, hu2, ru2⟩ := rv2.get hy
    have hzl : z < s.heap.objs.size := Heap.lt_size hz
    refine pyNext_zipK_item D hz hTI hTO h1 h2 p p2 (x := u) (y := u2) (by simpa using hu) (by simpa using hu2) fun h' z' TO' h1' h2' hT hsz hk => ?_
    refine ⟨_, rfl, wpAny_letOwnedTupleGo_zip (s := { s with heap := h' }) z' fun h'' z'' sb => ?_⟩
    have hT2 : h''.get? s.heap.objs.size = some { cls := .type "tuple", data := .seq #[u, u2] } := (sb.2 _ (Nat.ne_of_gt hzl)).trans hT
    have new : ObjOk X.prog X.w (upd H s.heap.objs.size (.tup [x, y])) h'' s.heap.objs.size (.tup [x, y]) :=
      ⟨by show 2 ≤ sizeLine; decide, [u, u2], .cons ru (.cons ru2 .nil), ⟨_, hT2, rfl, _, rfl⟩⟩
    have I1 : Inv X pins σ (upd H s.heap.objs.size (.tup [x, y])) { s with heap := h'' } :=
      I.turnedNew (t' := s.toks) (ch := [z, TI, TO, i1, i2]) (fun c o hb q => (sb.2 c (fun q' => hb (by simp [q']))).trans (hk c o (fun q' => hb (by simp [q'])) (fun q' => hb (by simp [q'])) (fun q' => hb (by simp [q'])) (fun q' => hb (by simp [q'])) q)) hf (Nat.le_refl _) new
    refine ⟨.ref s.heap.objs.size, _, I1, rfl, ⟨_, x, y, rfl, I.hok.fresh (Nat.le_refl _), rfl, fun l hl => by rw [Inv.seqV_inj I hl hqx]; exact hx, fun l hl => by rw [Inv.seqV_inj I hl hqy]; exact hy⟩, ⟨z'', ?_, ⟨u, u2, ?_⟩, ?_, ?_⟩, fun c hcm => ?_⟩
    · exact (sb.2 _ D.TIz).trans (hk _ _ D.TIz D.TITO D.TIi1 D.TIi2 hTI)
    · exact (sb.2 _ D.TOz).trans TO'
    · exact h1'.at fun o q => (sb.2 _ D.i1z).trans q
    · exact h2'.at fun o q => (sb.2 _ D.i2z).trans q
    · have hlt : c < s.heap.objs.size := by
        have e' : c = z ∨ c = TI ∨ c = TO ∨ c = i1 ∨ c = i2 := by simpa using hcm
        rcases e' with q | q | q | q | q
        · rw [q]; exact hzl
        · rw [q]; exact Heap.lt_size hTI
        · rw [q]; exact Heap.lt_size hTO
        · rw [q]; exact h1.lt
        · rw [q]; exact h2.lt
      rw [upd_ne (Nat.ne_of_lt hlt)]
      exact (hf c hcm).1
  done := by
    intro X hP hw hK hc i pins s σ H E I hf st hg
    subst hP hw hK
    obtain ⟨hz, hTI, ⟨x0, y0, hTO⟩, h1, h2⟩ := st
    obtain ⟨xs, ys, hqx, hqy, hend⟩ := hg
    obtain ⟨its, rv, p, _⟩ := Inv.seqV I hqx
    obtain ⟨its2, rv2, p2, _⟩ := Inv.seqV I hqy
    have l1 := rv.length
    have l2 := rv2.length
    have he : its.toArray[i]? = none ∨ its2.toArray[i]? = none := by
      rcases hend with q | q
      · exact .inl (by simp; omega)
      · exact .inr (by simp; omega)
    exact pyNext_zipK_end (I.ok.hd hc) D hz hTI hTO h1 h2 p p2 he fun h' hk => ⟨rfl, I.turnedL (t' := s.toks) (ch := [z, TI, TO, i1, i2]) (fun c o hb q =>
      hk c o (fun q' => hb (by simp [q'])) (fun q' => hb (by simp [q'])) (fun q' => hb (by simp [q'])) (fun q' => hb (by simp [q'])) q) hf⟩
  self := fun A i s Q E st h => wpAny_pyIter_zip st.1 h

/-! ### the iterables -/
/-- a list, a tuple, a text; a dict's keys -/
def iSeq (K : Fg) (te : TE) : TI := fun σ H R => te σ H fun x H1 => (∃ a, x = .ref a ∧ (∃ xs, SqL K H1 a xs) ∧ R (Itl K a) H1) ∨ (∃ a, x = .ref a ∧ (∃ xs, SqT K H1 a xs) ∧ R (Itt K a) H1) ∨ ∃ z, x = .str z ∧ R (Its z) H1
theorem PE.PI3 {X : Cx} {tg e : Expr} {te : TE} (he : PE X e te) : PI X tg e (iSeq X.K te) := by
  refine ⟨fun pins s σ H R I h => ?_⟩
  refine thn (he.run pins s σ H _ I h) fun v s1 ⟨x, H1, I1, r1, q1⟩ => ?_
  rcases q1 with ⟨a, e, ⟨xs, hq⟩, q⟩ | ⟨a, e, ⟨xs, hq⟩, q⟩ | ⟨x, ex, q⟩
  · subst e
    cases r1
    obtain ⟨its, rv, p, hz⟩ := I1.list hq
    refine wpAny_pyIter_list p.isList ?_
    refine ⟨s1.heap.objs.size, [s1.heap.objs.size], _, _, H1, rfl, I1.kept (t' := s1.toks) fun b o e => Heap.get?_push_of_some _ e, turn_list a _, ⟨_, Heap.get?_push_size _ rfl, rfl, rfl⟩, fun b hb => ?_, q⟩
    have e : b = s1.heap.objs.size := by simpa using hb
    subst e
    exact I1.fpOk (Nat.le_refl _) (I1.hok.fresh (Nat.le_refl _))
  · subst e
    cases r1
    obtain ⟨its, rv, p, hz⟩ := I1.tuple hq
    refine wpAny_pyIter_tuple (show s1.heap.IsTuple a its.toArray from p) ?_
    refine ⟨s1.heap.objs.size, [s1.heap.objs.size], _, _, H1, rfl, I1.kept (t' := s1.toks) fun b o e => Heap.get?_push_of_some _ e, turn_tuple a _, ⟨_, Heap.get?_push_size _ rfl, rfl, rfl⟩, fun b hb => ?_, q⟩
    have e : b = s1.heap.objs.size := by simpa using hb
    subst e
    exact I1.fpOk (Nat.le_refl _) (I1.hok.fresh (Nat.le_refl _))
  · subst ex
    obtain ⟨t, rfl⟩ := r1
    cases ha : x.cps.all (· < 128)
    · exact wpAny_pyIter_wide ha (pi_one (tk := s1.toks) I1 _ (turn_str _ x t "str_iterator" (.inr rfl)) ⟨_, Heap.get?_push_size _ rfl, rfl, rfl⟩ q)
    · exact wpAny_pyIter_ascii ha (pi_one (tk := s1.toks) I1 _ (turn_str _ x t "str_ascii_iterator" (.inl rfl)) ⟨_, Heap.get?_push_size _ rfl, rfl, rfl⟩ q)
def iEnumK (K : Fg) (ta : TA) : TI := fun σ H R => ta σ H fun vs H1 => (∃ a xs k, vs = [.ref a] ∧ SqV K k H1 a xs ∧ R (IteK K k a) H1) ∨ ∃ z, vs = [.str z] ∧ R (IteS z) H1
theorem pi_enumK {X : Cx} {e : Expr} {ta : TA} {p pos tpos : Pos} {elts : List Expr} {kk : Nat} (hg : Gl X "enumerate") (hm : X.mg "enumerate" = none) (ha : PA X [e] ta) (hs : starEach [e] X.env = [(false, eval e X.env)]) :
    PI X (.Tuple elts kk tpos) (.Call (.Name "enumerate" p) [e] [] pos) (iEnumK X.K ta) := by
  refine ⟨fun pins s σ H R I h => ?_⟩
  refine Call_ (ld_blt I hg hm boot_enumerate (PyProof.Rows.callWith_type1 (thn (ha.run pos pins s σ H _ I h) fun us s1 ⟨vs, H1, I1, r1, q1⟩ => ?_) hs rfl))
  have two : ∀ b, b ∈ [s1.heap.objs.size + 1, s1.heap.objs.size] → FpOk X pins H1 b := fun b hb => by
    have e' : b = s1.heap.objs.size + 1 ∨ b = s1.heap.objs.size := by simpa using hb
    have hle : s1.heap.objs.size ≤ b := by
      rcases e' with z | z
      · rw [z]; exact Nat.le_add_right _ _
      · rw [z]; exact Nat.le_refl _
    exact I1.fpOk hle (I1.hok.fresh hle)
  rcases q1 with ⟨a, xs, k, ex, hq, q⟩ | ⟨z, ex, q⟩
  · subst ex
    cases r1 with
    | cons r rr =>
      cases rr
      cases r
      obtain ⟨its, rv, p', hz⟩ := Inv.seqV I1 hq
      refine call_enumK p' fun h' he hit hsz hk => wpAny_pyIter_enum he ?_
      have I2 : Inv X pins σ H1 { s1 with heap := h' } := I1.kept (t' := s1.toks) hk
      exact ⟨s1.heap.objs.size + 1, [s1.heap.objs.size + 1, s1.heap.objs.size], _, _, H1, rfl, I2, turn_enumK a (s1.heap.objs.size + 1) s1.heap.objs.size, ⟨⟨.none, he⟩, hit, Nat.succ_ne_self _⟩, two, q⟩
  · subst ex
    cases r1 with
    | cons r rr =>
      cases rr
      obtain ⟨t, rfl⟩ := r
      refine call_enumerate_str fun h' he hit hsz hk => wpAny_pyIter_enum he ?_
      have I2 : Inv X pins σ H1 { s1 with heap := h' } := I1.kept (t' := s1.toks) hk
      exact ⟨s1.heap.objs.size + 1, [s1.heap.objs.size + 1, s1.heap.objs.size], _, _, H1, rfl, I2, turn_enumS z t (s1.heap.objs.size + 1) s1.heap.objs.size, ⟨⟨.none, he⟩, hit, Nat.succ_ne_self _⟩, two, q⟩
def iZipK (K : Fg) (ta : TA) : TI := fun σ H R => ta σ H fun vs H1 => ∃ a b xs ys k1 k2, vs = [.ref a, .ref b] ∧ SqV K k1 H1 a xs ∧ SqV K k2 H1 b ys ∧ R (ItzK K k1 k2 a b) H1
theorem pi_zipK {X : Cx} {e e2 : Expr} {ta : TA} {p pos tpos : Pos} {elts : List Expr} {kk : Nat} (hg : Gl X "zip") (hm : X.mg "zip" = none) (ha : PA X [e, e2] ta)
    (hs : starEach [e, e2] X.env = (false, eval e X.env) :: starEach [e2] X.env) (hpl : (backTo pos (starEach [e2] X.env)).any (·.1) = false) :
    PI X (.Tuple elts kk tpos) (.Call (.Name "zip" p) [e, e2] [] pos) (iZipK X.K ta) := by
  refine ⟨fun pins s σ H R I h => ?_⟩
  refine Call_ (ld_blt I hg hm PyProof.Rows.boot_zip (PyProof.Rows.callWith_type1 (thn (ha.run pos pins s σ H _ I h) fun us s1 ⟨vs, H1, I1, r1, q1⟩ => ?_) hs hpl))
  obtain ⟨a, b, xs, ys, k1, k2, ex, hqx, hqy, q⟩ := q1
  subst ex
  cases r1 with
  | cons r rr =>
    cases rr with
    | cons r' rr =>
      cases rr
      cases r
      cases r'
      have fresh5 : ∀ c, c ∈ [s1.heap.objs.size + 4, s1.heap.objs.size + 2, s1.heap.objs.size + 3, s1.heap.objs.size, s1.heap.objs.size + 1] → FpOk X pins H1 c := fun c hcm => by
        have e' : c = s1.heap.objs.size + 4 ∨ c = s1.heap.objs.size + 2 ∨ c = s1.heap.objs.size + 3 ∨ c = s1.heap.objs.size ∨ c = s1.heap.objs.size + 1 := by simpa using hcm
        have hle : s1.heap.objs.size ≤ c := by
          rcases e' with z | z | z | z | z
          · rw [z]; exact Nat.le_add_right _ _
          · rw [z]; exact Nat.le_add_right _ _
          · rw [z]; exact Nat.le_add_right _ _
          · rw [z]; exact Nat.le_refl _
          · rw [z]; exact Nat.le_add_right _ _
        exact I1.fpOk hle (I1.hok.fresh hle)
      obtain ⟨its, rv, p1, _⟩ := Inv.seqV I1 hqx
      obtain ⟨its2, rv2, p2, _⟩ := Inv.seqV I1 hqy
      refine call_zipK p1 p2 fun h' hz hTI hTO h1 h2 hsz hk => wpAny_pyIter_zip hz ?_
      have I2 : Inv X pins σ H1 { s1 with heap := h' } := I1.kept (t' := s1.toks) hk
      exact ⟨s1.heap.objs.size + 4, [s1.heap.objs.size + 4, s1.heap.objs.size + 2, s1.heap.objs.size + 3, s1.heap.objs.size, s1.heap.objs.size + 1], _, _, H1, rfl, I2, turn_zipK (PySem.W.ktu_apart s1.heap.objs.size a b p1.lt p2.lt), ⟨hz, hTI, ⟨_, _, hTO⟩, h1, h2⟩, fresh5, q⟩
end SWS
end
section
/-! The evaluator leaves alone what a loop goes along. -/
namespace SW
def Keeps (μ μ' : Mem) : Prop := ∀ (n : Nat) (o : MO), μ[n]? = some (.lk o) → μ'[n]? = some (.lk o)
theorem Keeps.refl (μ : Mem) : Keeps μ μ := fun _ _ h => h
theorem Keeps.trans {μ ν τ : Mem} (h : Keeps μ ν) (h' : Keeps ν τ) : Keeps μ τ := fun n o e => h' n o (h n o e)
theorem Keeps.set {μ : Mem} {n : Nat} {o u : MO} (h : μ[n]? = some o) (hn : ∀ p, o ≠ .lk p) : Keeps μ (μ.set n u) := fun m p e => by
  by_cases hm : n = m
  · subst hm; rw [h] at e; cases e; exact absurd rfl (hn p)
  · rw [List.getElem?_set_ne hm]; exact e
theorem Keeps.app (μ ν : Mem) : Keeps μ (μ ++ ν) := fun n o e => by
  rw [List.getElem?_append_left (List.getElem?_eq_some_iff.mp e).1]; exact e
theorem Keeps.take {μ ν : Mem} (h : Keeps μ ν) : Keeps μ (ν.take μ.length) := fun n o e => by
  rw [List.getElem?_take_of_lt (List.getElem?_eq_some_iff.mp e).1]; exact h n o e
def Pres {α : Type} (x : M α) : Prop := ∀ (μ : Mem) (a : α) (μ' : Mem), x μ = .ok a μ' → Keeps μ μ'
/-- it changes nothing -/
def Still {α : Type} (x : M α) : Prop := ∀ (μ : Mem) (a : α) (μ' : Mem), x μ = .ok a μ' → μ' = μ
theorem Still.pres {α : Type} {x : M α} (h : Still x) : Pres x := fun μ a μ' e => by rw [h μ a μ' e]; exact Keeps.refl _
theorem rbind_inv {α β : Type} {x : Res α} {f : α → Mem → Res β} {b : β} {ν : Mem} (e : x.bind f = .ok b ν) : ∃ a μ, x = .ok a μ ∧ f a μ = .ok b ν := by
  cases x with
  | ok a μ => exact ⟨a, μ, rfl, e⟩
  | exn c μ => cases e
  | no => cases e
section
variable {α β : Type}
theorem Pres.bind {x : M α} {f : α → M β} (h : Pres x) (h' : ∀ a, Pres (f a)) : Pres (x >>= f) := fun μ b μ' e => by
  obtain ⟨a, ν, e1, e2⟩ := rbind_inv (show (x μ).bind (fun a ν => f a ν) = .ok b μ' from e)
  exact (h μ a ν e1).trans (h' a ν b μ' e2)
theorem Still.bind {x : M α} {f : α → M β} (h : Still x) (h' : ∀ a, Still (f a)) : Still (x >>= f) := fun μ b μ' e => by
  obtain ⟨a, ν, e1, e2⟩ := rbind_inv (show (x μ).bind (fun a ν => f a ν) = .ok b μ' from e)
  rw [h' a ν b μ' e2, h μ a ν e1]
theorem Still.pure (a : α) : Still (pure a : M α) := fun μ b μ' e => by cases e; rfl
theorem Still.no : Still (no : M α) := fun μ b μ' e => by cases e
theorem Still.ite {c : Prop} [Decidable c] {x y : M α} (h : Still x) (h' : Still y) : Still (if c then x else y) := by split <;> assumption
theorem Pres.ite {c : Prop} [Decidable c] {x y : M α} (h : Pres x) (h' : Pres y) : Pres (if c then x else y) := by split <;> assumption
theorem freeM_at : ∀ (μ : Mem), freeM μ = true → ∀ (n : Nat) (o : MO), μ[n]? ≠ some (.lk o)
  | [], _, n, o => by simp
  | x :: μ, h, 0, o => by
    intro e
    simp at e
    subst e
    simp [freeM] at h
  | x :: μ, h, n + 1, o => by
    have h' : freeM μ = true := by
      cases x <;> first | exact h | (simp [freeM] at h)
    simpa using freeM_at μ h' n o
theorem pres_catch {n : Nat} {k : Option Nat} {r : Option PV} {l : Loc} {x : M (Loc × Fl)} (h : Pres x) : Pres (catchM n k r l x) := fun μ a μ' e => by
  unfold catchM at e
  cases q : x μ with
  | ok z ν => rw [q] at e; cases e; exact h μ a μ' q
  | no => rw [q] at e; cases e
  | exn c ν =>
    rw [q] at e
    dsimp only at e
    split at e
    · rename_i hc
      rw [Bool.and_eq_true] at hc
      exact fun m o z => absurd z (freeM_at μ hc.2 m o)
    · cases e
theorem Pres.pure (a : α) : Pres (pure a : M α) := (Still.pure a).pres
theorem Pres.no : Pres (no : M α) := Still.no.pres
theorem Still.ofO (o : Option α) : Still (ofO o) := by
  cases o
  · exact Still.no
  · exact Still.pure _
/-- a reading of the store -/
theorem Still.read (g : Mem → Option α) : Still (fun μ => match g μ with | some a => .ok a μ | none => .no) := fun μ b μ' e => by
  dsimp only at e
  split at e <;> cases e; rfl
end
theorem still_view (v : Val) : Still (view v) := fun μ b μ' e => by
  cases v with
  | v p => cases e; rfl
  | o n =>
    unfold view at e
    dsimp only at e
    split at e
    · split at e <;> cases e; rfl
    · cases e
theorem still_flat (v : Val) : Still (flat v) := by
  cases v
  · exact Still.pure _
  · exact Still.no
theorem still_flats : ∀ vs : List Val, Still (flats vs)
  | [] => Still.pure _
  | v :: vs => Still.bind (still_flat v) fun p => Still.bind (still_flats vs) fun ps => Still.pure _
theorem still_cmpV (o : CmpO) (x y : Val) : Still (cmpV o x y) := fun μ b μ' e => by
  have plain : Still (do let p ← view x; let q ← view y; let b ← ofO (cmp2v o p q); pure (Val.v (.bl b)) : M Val) :=
    Still.bind (still_view x) fun p => Still.bind (still_view y) fun q => Still.bind (Still.ofO _) fun b => Still.pure _
  unfold cmpV at e
  split at e
  · split at e
    · split at e <;> cases e; rfl
    · cases e
  · split at e
    · split at e <;> cases e; rfl
    · cases e
  · cases e
  · exact plain μ b μ' e
theorem still_truth (v : Val) : Still (truth v) := by
  cases v with
  | v p => cases p <;> first | exact Still.pure _ | exact Still.no
  | o n =>
    intro μ b μ' e
    unfold truth at e
    dsimp only at e
    split at e
    · split at e <;> cases e; rfl
    · cases e
theorem still_biV (b : Bi) (vs : List Val) : Still (biV b vs) := by
  cases vs with
  | nil => cases b <;> exact Still.no
  | cons x vs =>
    cases vs with
    | nil =>
      cases b with
      | len =>
        intro μ a μ' e
        unfold biV at e
        dsimp only at e
        split at e
        · cases e; rfl
        · exact Still.bind (still_view x) (fun p => Still.bind (Still.ofO _) fun r => Still.pure (Val.v r)) μ a μ' e
      | _ => exact Still.bind (still_view x) fun p => Still.bind (Still.ofO _) fun r => Still.pure _
    | cons y vs =>
      cases vs with
      | nil => cases b <;> exact Still.bind (still_view x) fun p => Still.bind (still_view y) fun q => Still.bind (Still.ofO _) fun r => Still.pure _
      | cons z vs => cases b <;> exact Still.no
def PresAt {α : Type} (x : M α) (μ : Mem) : Prop := ∀ (a : α) (μ' : Mem), x μ = .ok a μ' → Keeps μ μ'
theorem PresAt.no {α : Type} (μ : Mem) : PresAt (no : M α) μ := fun a μ' e => by cases e
theorem pres_setL (n : Nat) {μ : Mem} {xs ys : List PV} {p : PV} (h : μ[n]? = some (.lst xs)) : PresAt (setL n ys p) μ := fun a μ' e => by
  cases e
  exact Keeps.set h fun p q => by cases q
theorem pres_lstO {o : Val} {g : Nat → List PV → M Val} (h : ∀ n xs μ, μ[n]? = some (.lst xs) → PresAt (g n xs) μ) : Pres (lstO o g) := fun μ a μ' e => by
  cases o with
  | v p => cases e
  | o n =>
    unfold lstO at e
    dsimp only at e
    cases h1 : μ[n]? with
    | none => rw [h1] at e; cases e
    | some u =>
      rw [h1] at e
      cases u <;> first | (cases e; done) | exact h n _ μ h1 a μ' e
theorem still_kindM (m : Me) (v : Val) : Still (kindM m v) := fun μ b μ' e => by
  unfold kindM at e
  split at e <;> (split at e <;> first | (cases e; rfl) | (cases e; done))
theorem pres_meV (m : Me) (o : Val) (vs : List Val) : Pres (meV m o vs) := by
  unfold meV
  split
  · refine Pres.bind (still_flat _).pres fun p => pres_lstO fun n xs μ h => ?_
    split
    · exact pres_setL n h
    · exact PresAt.no _
  · refine Pres.bind (still_view _).pres fun p => ?_
    split
    · refine pres_lstO fun n xs μ h => ?_
      split
      · exact pres_setL n h
      · exact PresAt.no _
    · exact Pres.no
  · refine pres_lstO fun n xs μ h => ?_
    split
    · exact pres_setL n h
    · exact PresAt.no _
  · exact pres_lstO fun n xs μ h => pres_setL n h
  · refine Pres.bind (still_flat _).pres fun p => pres_lstO fun n xs μ h => ?_
    split
    · split
      · exact pres_setL n h
      · exact PresAt.no _
    · exact PresAt.no _
  · refine Pres.bind (still_flat _).pres fun p => ?_
    split
    · refine pres_lstO fun n xs μ h => ?_
      split
      · split
        · exact pres_setL n h
        · exact PresAt.no _
      · exact PresAt.no _
    · exact Pres.no
  · refine Pres.bind (still_view _).pres fun p => Pres.bind (still_view _).pres fun q => ?_
    split
    · refine Pres.ite ?_ Pres.no
      split
      · exact Pres.pure _
      · exact Pres.no
    · exact Pres.no
  · refine Pres.bind (still_flat _).pres fun q => ?_
    split
    · refine Pres.ite ?_ Pres.no
      split
      · exact Pres.pure _
      · exact Pres.no
    · exact Pres.no
  · refine Pres.bind (still_view _).pres fun p => Pres.bind (still_view _).pres fun q => ?_
    split
    · exact Pres.ite (Pres.pure _) Pres.no
    · exact Pres.no
  · refine Pres.bind (still_flat _).pres fun p => fun μ a μ' e => ?_
    split at e <;> cases e
    exact Keeps.refl _
  · refine Pres.bind (still_flat _).pres fun p => Pres.bind (still_flat _).pres fun q => fun μ a μ' e => ?_
    split at e <;> cases e
    exact Keeps.refl _
  · refine Pres.bind (still_view _).pres fun p => Pres.bind (still_view _).pres fun q => ?_
    split
    · split
      · exact Pres.ite (Pres.pure _) Pres.no
      · exact Pres.no
    · split
      · exact Pres.ite (Pres.pure _) Pres.no
      · exact Pres.no
    · exact Pres.no
  · refine Pres.bind (still_view _).pres fun p => Pres.bind (still_view _).pres fun q => ?_
    split
    · exact Pres.ite (Pres.pure _) Pres.no
    · exact Pres.no
  · exact Pres.no
/-! ### loops -/
theorem Pres.noX {α : Type} {x : M α} (h : Pres x) : Pres (noX x) := fun μ a μ' e => by
  unfold SW.noX at e
  split at e <;> cases e
  rename_i h1
  exact h μ _ _ h1
theorem pres_compL {α : Type} {f : PV → M (Option α)} (h : ∀ x, Pres (f x)) : ∀ xs, Pres (compL f xs)
  | [] => Pres.pure _
  | x :: xs => by
    unfold compL
    exact Pres.bind (h x) fun y => Pres.bind (pres_compL h xs) fun ys => Pres.pure _
theorem pres_forL {f : PV → Loc → M (Loc × Fl)} (h : ∀ x l, Pres (f x l)) : ∀ xs l, Pres (forL f xs l)
  | [], l => Pres.pure _
  | x :: xs, l => by
    unfold forL
    refine Pres.bind (h x l) fun r => ?_
    split
    · exact pres_forL h xs _
    · exact Pres.pure _
theorem pres_whileL {c : Loc → M Bool} {f : Loc → M (Loc × Fl)} (hc : ∀ l, Pres (c l)) (h : ∀ l, Pres (f l)) : ∀ n l, Pres (whileL c f n l)
  | 0, l => Pres.no
  | n + 1, l => by
    unfold whileL
    refine Pres.bind (hc l) fun b => ?_
    split
    · refine Pres.bind (h l) fun r => ?_
      split
      · exact pres_whileL hc h n _
      · exact Pres.pure _
    · exact Pres.pure _
theorem pres_newO (o : MO) : Pres (newO o) := fun μ a μ' e => by
  cases e; exact Keeps.app _ _
/-- which are locked by lockM: free ahead of it, no more behind it -/
theorem lockM_inv : ∀ (r : Srcs) (μ : Mem) (ls : List Nat) (μ' : Mem), lockM r μ = .ok ls μ' → Keeps μ μ' ∧ (∀ n ∈ ls, ∃ o, μ[n]? = some o ∧ ∀ p, o ≠ .lk p) ∧ ls.Nodup ∧ μ'.length = μ.length
  | [], μ, ls, μ', e => by cases e; exact ⟨Keeps.refl _, by simp, by simp, rfl⟩
  | (n, ys) :: r, μ, ls, μ', e => by
    unfold lockM at e
    split at e
    · rename_i xs h1
      obtain ⟨ls', ν, e1, e2⟩ := rbind_inv e
      cases e2
      obtain ⟨k1, k2, k3, k4⟩ := lockM_inv r _ _ _ e1
      have hn : n < μ.length := (List.getElem?_eq_some_iff.mp h1).1
      have hset : (μ.set n (.lk (.lst xs)))[n]? = some (.lk (.lst xs)) := List.getElem?_set_self hn
      refine ⟨(Keeps.set h1 fun p q => by cases q).trans k1, fun m hm => ?_, ?_, by rw [k4]; simp⟩
      · rcases List.mem_cons.mp hm with rfl | hm
        · exact ⟨_, h1, fun p q => by cases q⟩
        · obtain ⟨o, ho, hp⟩ := k2 m hm
          have hne : n ≠ m := fun z => by subst z; rw [hset] at ho; cases ho; exact hp _ rfl
          rw [List.getElem?_set_ne hne] at ho
          exact ⟨o, ho, hp⟩
      · refine List.nodup_cons.mpr ⟨fun hm => ?_, k3⟩
        obtain ⟨o, ho, hp⟩ := k2 n hm
        rw [hset] at ho; cases ho; exact hp _ rfl
    · exact lockM_inv r μ ls μ' e
    · cases e
theorem unlockM_inv : ∀ (ls : List Nat) (μ : Mem) (a : Unit) (μ' : Mem), unlockM ls μ = .ok a μ' → ∀ n, n ∉ ls → μ'[n]? = μ[n]?
  | [], μ, a, μ', e, n, _ => by cases e; rfl
  | k :: r, μ, a, μ', e, n, hn => by
    unfold unlockM at e
    split at e
    · rw [unlockM_inv r _ a μ' e n fun h => hn (by simp [h]), List.getElem?_set_ne fun h => hn (by simp [h])]
    · cases e
/-- a loop's frame -/
theorem Pres.locked {α β : Type} {r : Srcs} {x : M α} {f : α → M β} (h : Pres x) (h' : ∀ a, Pres (f a)) : Pres (do let ls ← lockM r; let a ← x; unlockM ls; f a) := fun μ b μ' e => by
  obtain ⟨ls, ν, e1, e2⟩ := rbind_inv (show (lockM r μ).bind (fun ls ν => _) = .ok b μ' from e)
  obtain ⟨a, τ, e3, e4⟩ := rbind_inv e2
  obtain ⟨u, κ, e5, e6⟩ := rbind_inv e4
  obtain ⟨k1, k2, _, _⟩ := lockM_inv r μ ls ν e1
  refine Keeps.trans (fun n o hn => ?_) (h' a κ b μ' e6)
  have hl : n ∉ ls := fun hm => by
    obtain ⟨o', ho, hp⟩ := k2 n hm
    rw [hn] at ho; cases ho; exact hp _ rfl
  rw [unlockM_inv ls τ u κ e5 n hl]
  exact h ν a τ e3 n o (k1 n o hn)
theorem still_seqS (v : Val) : Still (seqS v) := by
  cases v with
  | v p => cases p <;> first | exact Still.pure _ | exact Still.no
  | o n =>
    intro μ b μ' e
    unfold seqS at e
    dsimp only at e
    split at e
    · split at e <;> cases e; rfl
    · cases e
theorem still_seqT (v : Val) : Still (seqT v) := by
  cases v with
  | v p => cases p <;> first | exact Still.pure _ | exact Still.no
  | o n => exact still_seqS (.o n)
theorem pres_onKeys {α : Type} {i : Nat} {l : Loc} {f : List PV → M α} (h : ∀ xs, Pres (f xs)) : Pres (onKeys i l f) := fun μ a μ' e => by
  unfold onKeys at e
  split at e
  · rename_i n _
    split at e
    · rename_i kvs h1
      split at e
      · rename_i b ν h2
        split at e
        · rename_i ks h3
          cases e
          intro m o hm
          have hne : n ≠ m := fun z => by subst z; rw [h1] at hm; cases hm
          rw [List.getElem?_set_ne hne]
          exact h _ _ _ _ h2 m o (by rw [List.getElem?_set_ne hne]; exact hm)
        · cases e
      · cases e
    · cases e
  · cases e
/-! ### the evaluator -/
section
variable {F : Type} {C : Mode → Nat → F → List Val → M Val} (hC : ∀ m b f vs, Pres (C m b f vs)) (b : Nat)
include hC
mutual
theorem presE : ∀ (e : E F) (l : Loc), Pres (evE C b e l)
  | .var i, l => by rw [evE]; split <;> first | exact Pres.pure _ | exact Pres.no
  | .int i, l => Pres.pure _
  | .str i, l => Pres.pure _
  | .bl i, l => Pres.pure _
  | .non, l => Pres.pure _
  | .cst p, l => Pres.pure _
  | .bin o x y, l => by
    rw [evE]
    exact Pres.bind (presE x l) fun u => Pres.bind (presE y l) fun v => Pres.bind (still_view _).pres fun p => Pres.bind (still_view _).pres fun q => Pres.bind (Still.ofO _).pres fun r => Pres.pure _
  | .neg x, l => by
    rw [evE]
    refine Pres.bind (presE x l) fun u => ?_
    split <;> first | exact Pres.pure _ | exact Pres.no
  | .emp x, l => by
    rw [evE]
    refine Pres.bind (presE x l) fun u => fun μ a μ' e => ?_
    split at e <;> cases e
    exact Keeps.refl _
  | .cmp o x y, l => by
    rw [evE]
    exact Pres.bind (presE x l) fun u => Pres.bind (presE y l) fun v => (still_cmpV o u v).pres
  | .cmp2 o p x y z, l => by
    rw [evE]
    refine Pres.bind (presE x l) fun u => Pres.bind (presE y l) fun v => Pres.bind (still_cmpV o u v).pres fun r => ?_
    split
    · exact Pres.bind (presE z l) fun w => (still_cmpV p v w).pres
    · exact Pres.pure _
    · exact Pres.no
  | .and x y, l => by
    rw [evE]
    refine Pres.bind (presE x l) fun u => ?_
    split
    · exact presE y l
    · exact Pres.pure _
    · exact Pres.no
  | .or x y, l => by
    rw [evE]
    refine Pres.bind (presE x l) fun u => ?_
    split
    · exact Pres.pure _
    · exact presE y l
    · exact Pres.no
  | .not x, l => by
    rw [evE]
    refine Pres.bind (presE x l) fun u => ?_
    split <;> first | exact Pres.pure _ | exact Pres.no
  | .ite c x y, l => by
    rw [evE]
    exact Pres.bind (presT c l) fun u => Pres.ite (presE x l) (presE y l)
  | .tup es, l => by
    rw [evE]
    exact Pres.bind (presEs es l) fun vs => Pres.bind (still_flats vs).pres fun ps => Pres.pure _
  | .lst es, l => by
    rw [evE]
    exact Pres.bind (presEs es l) fun vs => Pres.bind (still_flats vs).pres fun ps => Pres.pure _
  | .idx x i, l => by
    rw [evE]
    refine Pres.bind (presE x l) fun u => Pres.bind (presE i l) fun v => Pres.bind (still_flat v).pres fun q => fun μ a μ' e => ?_
    split at e
    · split at e
      · split at e <;> cases e; exact Keeps.refl _
      · cases e
    · refine (Pres.bind (still_view u).pres fun p => ?_) μ a μ' e
      split
      · exact Pres.bind (Still.ofO _).pres fun r => Pres.pure _
      · exact Pres.bind (Still.ofO _).pres fun r => Pres.pure _
      · exact Pres.bind (Still.ofO _).pres fun r => Pres.pure _
      · exact Pres.no
  | .slc x lo hi, l => by
    rw [evE]
    refine Pres.bind (presE x l) fun u => Pres.bind (presO lo l) fun i => Pres.bind (presO hi l) fun j => Pres.bind (still_view u).pres fun p => ?_
    split
    · exact Pres.pure _
    · exact Pres.pure _
    · exact Pres.ite (Pres.pure _) Pres.no
    · exact Pres.no
  | .call m f es, l => by
    rw [evE]
    exact Pres.bind (presEs es l) fun vs => hC m b f vs
  | .callL m fs i es, l => by
    rw [evE]
    exact Pres.bind (presE i l) fun x => Pres.bind (Still.ofO _).pres fun f => Pres.bind (presEs es l) fun vs => hC _ _ _ _
  | .bad, l => by rw [evE]; exact Pres.no
  | .bi o es, l => by
    rw [evE]
    exact Pres.bind (presEs es l) fun vs => (still_biV o vs).pres
  | .me m o es, l => by
    rw [evE]
    exact Pres.bind (presE o l) fun u => Pres.bind (still_kindM m u).pres fun _ => Pres.bind (presEs es l) fun vs => pres_meV m u vs
  | .comp elt p it cs own, l => by
    rw [evE]
    refine Pres.bind (presI it l) fun r => Pres.locked (pres_compL (fun x => Pres.noX ?_) r.1) fun ys => Pres.ite (Pres.pure _) Pres.no
    split
    · refine Pres.bind (presC cs _) fun ok => ?_
      exact Pres.ite (Pres.bind (presE elt _) fun v => Pres.bind (still_flat v).pres fun y => Pres.pure _) (Pres.pure _)
    · exact Pres.no
  | .lenSet elt p it cs own, l => by
    rw [evE]
    refine Pres.bind (presI it l) fun r => Pres.locked (pres_compL (fun x => Pres.noX ?_) r.1) fun ys => by
      split
      · exact Pres.ite (Pres.pure _) Pres.no
      · exact Pres.no
    split
    · refine Pres.bind (presC cs _) fun ok => ?_
      exact Pres.ite (Pres.bind (presE elt _) fun v => Pres.bind (still_flat v).pres fun y => Pres.pure _) (Pres.pure _)
    · exact Pres.no
  | .own f, l => by
    rw [evE]
    exact Pres.bind (presF f l) fun o => pres_newO o
  | .compK elt p i cs own, l => by
    rw [evE]
    refine pres_onKeys fun xs => Pres.bind (pres_compL (fun x => Pres.noX ?_) xs) fun ys => Pres.ite (Pres.pure _) Pres.no
    split
    · refine Pres.bind (presC cs _) fun ok => ?_
      exact Pres.ite (Pres.bind (presE elt _) fun v => Pres.bind (still_flat v).pres fun y => Pres.pure _) (Pres.pure _)
    · exact Pres.no
theorem presEs : ∀ (es : List (E F)) (l : Loc), Pres (evEs C b es l)
  | [], l => Pres.pure _
  | e :: es, l => by
    rw [evEs]
    exact Pres.bind (presE e l) fun v => Pres.bind (presEs es l) fun vs => Pres.pure _
theorem presO : ∀ (o : Option (E F)) (l : Loc), Pres (evO C b o l)
  | none, l => Pres.pure _
  | some e, l => by
    rw [evO]
    refine Pres.bind (presE e l) fun v => ?_
    unfold optI
    refine Pres.bind (still_flat v).pres fun p => ?_
    split <;> first | exact Pres.pure _ | exact Pres.no
theorem presC : ∀ (cs : List (Cn F)) (l : Loc), Pres (evC C b cs l)
  | [], l => Pres.pure _
  | c :: cs, l => by
    rw [evC]
    exact Pres.bind (presT c l) fun x => Pres.ite (presC cs l) (Pres.pure _)
theorem presT : ∀ (c : Cn F) (l : Loc), Pres (evT C b c l)
  | .and x y, l => by
    rw [evT]
    exact Pres.bind (presT x l) fun u => Pres.ite (presT y l) (Pres.pure _)
  | .or x y, l => by
    rw [evT]
    exact Pres.bind (presT x l) fun u => Pres.ite (Pres.pure _) (presT y l)
  | .not x, l => by
    rw [evT]
    exact Pres.bind (presT x l) fun u => Pres.pure _
  | .e x, l => by
    rw [evT]
    exact Pres.bind (presE x l) fun u => (still_truth u).pres
theorem presF : ∀ (f : OF F) (l : Loc), Pres (evF C b f l)
  | .lst es, l => by
    rw [evF]
    exact Pres.bind (presEs es l) fun vs => Pres.bind (still_flats vs).pres fun ps => Pres.pure _
  | .dk, l => Pres.pure _
  | .dt, l => Pres.pure _
  | .rep x y, l => by
    rw [evF]
    refine Pres.bind (presE x l) fun u => Pres.bind (presE y l) fun v => Pres.bind (still_view u).pres fun p => Pres.bind (still_view v).pres fun q => Pres.bind (Still.ofO _).pres fun r => ?_
    split <;> first | exact Pres.pure _ | exact Pres.no
  | .comp elt p it cs own, l => by
    rw [evF]
    refine Pres.bind (presI it l) fun r => Pres.locked (pres_compL (fun x => Pres.noX ?_) r.1) fun ys => Pres.ite (Pres.pure _) Pres.no
    split
    · refine Pres.bind (presC cs _) fun ok => ?_
      exact Pres.ite (Pres.bind (presE elt _) fun v => Pres.bind (still_flat v).pres fun y => Pres.pure _) (Pres.pure _)
    · exact Pres.no
  | .dcomp k e p it cs own, l => by
    rw [evF]
    refine Pres.bind (presI it l) fun r => Pres.locked (pres_compL (fun x => Pres.noX ?_) r.1) fun ys => Pres.ite (Pres.bind (Still.ofO _).pres fun d => Pres.pure _) Pres.no
    split
    · refine Pres.bind (presC cs _) fun ok => ?_
      exact Pres.ite (Pres.bind (presE k _) fun v => Pres.bind (still_flat v).pres fun y => Pres.bind (presE e _) fun v => Pres.bind (still_flat v).pres fun y => Pres.pure _) (Pres.pure _)
    · exact Pres.no
  | .dcompK k e p i cs own, l => by
    rw [evF]
    refine pres_onKeys fun xs => Pres.bind (pres_compL (fun x => Pres.noX ?_) xs) fun ys => Pres.ite (Pres.bind (Still.ofO _).pres fun d => Pres.pure _) Pres.no
    split
    · refine Pres.bind (presC cs _) fun ok => ?_
      exact Pres.ite (Pres.bind (presE k _) fun v => Pres.bind (still_flat v).pres fun y => Pres.bind (presE e _) fun v => Pres.bind (still_flat v).pres fun y => Pres.pure _) (Pres.pure _)
    · exact Pres.no
  | .listOf e, l => by
    rw [evF]
    refine Pres.bind (presE e l) fun u => Pres.bind (still_view u).pres fun p => ?_
    split <;> first | exact Pres.pure _ | exact Pres.no
  | .dictOf e, l => by
    rw [evF]
    refine Pres.bind (presE e l) fun u => fun μ a μ' e => ?_
    split at e
    · split at e
      · split at e <;> cases e; exact Keeps.refl _
      · cases e
    · cases e
theorem presI : ∀ (it : It F) (l : Loc), Pres (evI C b it l)
  | .seq e, l => by
    rw [evI]
    exact Pres.bind (presE e l) fun u => (still_seqT u).pres
  | .range1 e, l => by
    rw [evI]
    refine Pres.bind (presE e l) fun u => ?_
    split
    · exact Pres.ite (Pres.pure _) Pres.no
    · exact Pres.no
  | .range2 x y, l => by
    rw [evI]
    refine Pres.bind (presE x l) fun u => Pres.bind (presE y l) fun v => ?_
    split
    · exact Pres.ite (Pres.pure _) Pres.no
    · exact Pres.no
  | .enum e, l => by
    rw [evI]
    exact Pres.bind (presE e l) fun u => Pres.bind (still_seqT u).pres fun r => Pres.pure _
  | .zip x y, l => by
    rw [evI]
    exact Pres.bind (presE x l) fun u => Pres.bind (presE y l) fun v => Pres.bind (still_seqS u).pres fun r => Pres.bind (still_seqS v).pres fun q => Pres.pure _
end
end
theorem pres_putI (x : Val) (q p : PV) : Pres (putI x q p) := fun μ a μ' h => by
  cases x with
  | v p => cases h
  | o n =>
    unfold putI at h
    dsimp only at h
    cases h1 : μ[n]? with
    | none => rw [h1] at h; cases h
    | some u =>
      rw [h1] at h
      cases u with
      | lst xs =>
        dsimp only at h
        split at h
        · split at h <;> cases h
          exact Keeps.set h1 fun p q => by cases q
        · cases h
      | dk kvs =>
        dsimp only at h
        split at h
        · split at h <;> cases h
          exact Keeps.set h1 fun p q => by cases q
        · cases h
      | _ => cases h
theorem pres_putT (x : Val) (q : List PV) (p : PV) : Pres (putT x q p) := fun μ a μ' h => by
  cases x with
  | v p => cases h
  | o n =>
    unfold putT at h
    dsimp only at h
    cases h1 : μ[n]? with
    | none => rw [h1] at h; cases h
    | some u =>
      rw [h1] at h
      cases u with
      | dt kvs =>
        dsimp only at h
        split at h
        · split at h <;> cases h
          exact Keeps.set h1 fun p q => by cases q
        · cases h
      | _ => cases h
section
variable {F : Type} {C : Mode → Nat → F → List Val → M Val} (hC : ∀ m b f vs, Pres (C m b f vs)) (b : Nat)
include hC
theorem presL2 (r : Option Loc) : Pres (lift2 r) := by
  cases r
  · exact Pres.no
  · exact Pres.pure _
mutual
theorem presS : ∀ (s : S F) (l : Loc), Pres (evS C b s l)
  | .asg p e, l => by
    rw [evS]
    exact Pres.bind (presE hC b e l) fun v => presL2 hC _
  | .par is es, l => by
    rw [evS]
    exact Pres.bind (presEs hC b es l) fun v => presL2 hC _
  | .aug i o e, l => by
    rw [evS]
    refine Pres.bind (presE hC b (.var i) l) fun x => Pres.bind (presE hC b e l) fun y => ?_
    unfold augV
    split <;> first | exact Pres.pure _ | exact Pres.no
  | .setItem o i e, l => by
    rw [evS]
    exact Pres.bind (presE hC b e l) fun v => Pres.bind (presE hC b o l) fun x => Pres.bind (presE hC b i l) fun y => Pres.bind (still_flat v).pres fun p => Pres.bind (still_flat y).pres fun q => Pres.bind (pres_putI x q p) fun _ => Pres.pure _
  | .setTup o is e, l => by
    rw [evS]
    exact Pres.bind (presE hC b e l) fun v => Pres.bind (presE hC b o l) fun x => Pres.bind (presEs hC b is l) fun y => Pres.bind (still_flat v).pres fun p => Pres.bind (still_flats y).pres fun q => Pres.bind (pres_putT x q p) fun _ => Pres.pure _
  | .expr e, l => by
    rw [evS]
    exact Pres.bind (presE hC b e l) fun v => Pres.pure _
  | .ret e, l => by
    rw [evS]
    exact Pres.bind (presE hC b e l) fun v => Pres.pure _
  | .ite c s t, l => by
    rw [evS]
    exact Pres.bind (presT hC b c l) fun v => Pres.ite (presB s l) (presB t l)
  | .for p it body, l => by
    rw [evS]
    refine Pres.bind (presI hC b it l) fun r => Pres.locked (pres_forL (fun x l => ?_) r.1 l) fun z => Pres.pure _
    split
    · exact presB body _
    · exact Pres.no
  | .forK p i body, l => by
    rw [evS]
    refine pres_onKeys fun xs => pres_forL (fun x l => ?_) xs l
    split
    · exact presB body _
    · exact Pres.no
  | .whl c body, l => by
    rw [evS]
    exact pres_whileL (fun l => presT hC b c l) (fun l => presB body l) _ l
  | .raise c, l => by rw [evS]; exact fun μ a μ' e => by cases e
  | .bad, l => by rw [evS]; exact Pres.no
  | .tryX n k r body, l => by rw [evS]; exact pres_catch (presB body l)
theorem presB : ∀ (s : List (S F)) (l : Loc), Pres (evB C b s l)
  | [], l => Pres.pure _
  | s :: r, l => by
    rw [evB]
    refine Pres.bind (presS s l) fun z => ?_
    split
    · exact presB r _
    · exact Pres.pure _
end
end
section
variable {F : Type} (T : F → FD F)
theorem keeps_fin {m : Mode} {c : Nat} {v : Val} {μ μ' ν : Mem} {a : Val} (k : Keeps μ ν) (hc : m ≠ .raw → c = μ.length) (h : fin m c v ν = .ok a μ') : Keeps μ μ' := by
  cases m with
  | raw =>
    cases v <;> (cases h; exact k)
  | val =>
    have hc := hc (by intro z; cases z)
    subst hc
    cases v with
    | v p => cases h; exact k.take
    | o n =>
      unfold fin at h
      dsimp only at h
      split at h
      · cases h; exact k.take
      · split at h <;> cases h
        exact k.take
  | own =>
    have hc := hc (by intro z; cases z)
    subst hc
    cases v with
    | v p => cases h
    | o n =>
      unfold fin at h
      dsimp only at h
      split at h
      · cases h
      · split at h <;> cases h <;> exact k.take.trans (Keeps.app _ _)
theorem pres_callN : ∀ (k : Nat) (m : Mode) (b : Nat) (f : F) (vs : List Val), Pres (callN T k m b f vs)
  | 0, m, b, f, vs => Pres.no
  | k + 1, m, b, f, vs => fun μ a μ' h => by
    have h : runF T (callN T k) m b f vs μ = .ok a μ' := h
    unfold runF at h
    split at h
    · cases e : evB (callN T k) (baseM m b μ) (T f).body (vs.map some ++ List.replicate ((T f).nl - (T f).np) none) μ with
      | no => rw [e] at h; cases h
      | exn c ν => rw [e] at h; cases h
      | ok z ν =>
        obtain ⟨l, fl⟩ := z
        rw [e] at h
        have hb : m ≠ .raw → baseM m b μ = μ.length := by intro z; cases m <;> first | rfl | exact absurd rfl z
        cases fl with
        | nx => exact keeps_fin (v := .v .non) (presB (pres_callN k) _ _ _ _ _ _ e) hb h
        | ret v => exact keeps_fin (v := v) (presB (pres_callN k) _ _ _ _ _ _ e) hb h
    · cases h
end
end SW
end
section
set_option maxRecDepth 100000
/-! Targets; what loops go along, by values. -/
namespace SWS
open PySem PySem.Spec PyProof.Rows L2
open SW (PV Val MO Ky Mem Res M E OF Cn Pat Fl view flat flats ofO bin2 Srcs Keeps)
/-! ### targets -/
mutual
def gPat (K : Fg) : Pat → TG
  | .v i => gName i
  | .t ps => fun v σ H Q => ∃ a xs, v = .ref a ∧ (SqT K H a xs ∨ SqL K H a xs) ∧ xs.length = ps.length ∧ gPats K ps xs σ H Q
def gPats (K : Fg) : List Pat → TGs
  | [] => gNil
  | p :: ps => gCons (gPat K p) (gPats K ps)
end
mutual
def pslots : Pat → List Nat
  | .v i => [i]
  | .t ps => psslots ps
def psslots : List Pat → List Nat
  | [] => []
  | p :: ps => pslots p ++ psslots ps
end
theorem wipe_set (vs : List Nat) (i : Nat) (hi : i ∈ vs) (x : Option V) : ∀ σ : L2.St, L2.wipe (σ.set i x) vs = L2.wipe σ vs := by
  have comm : ∀ (vs : List Nat) (σ : L2.St), L2.wipe (σ.set i x) vs = if i ∈ vs then L2.wipe σ vs else (L2.wipe σ vs).set i x := by
    intro vs
    induction vs with
    | nil => intro σ; simp [L2.wipe]
    | cons v vs ih =>
      intro σ
      unfold L2.wipe
      rw [ih]
      by_cases h : i ∈ vs
      · rw [if_pos h, if_pos (by simp [h])]
      · rw [if_neg h]
        by_cases hv : v = i
        · subst hv
          rw [if_pos (by simp), List.set_set]
        · rw [if_neg (by simp only [List.mem_cons, not_or]; exact ⟨fun e => hv e.symm, h⟩)]
          exact List.set_comm _ _ (fun e => hv e.symm)
  intro σ
  rw [comm, if_pos hi]
mutual
theorem pat_ok {K : Fg} {R H : Hp} {ρ : List Addr} (s : Sub R H) {vs : List Nat} : ∀ (p : Pat) (x : PV) (v : V) (l l' : SW.Loc) (σ : L2.St) (Q : L2.St → Hp → Prop), SW.asgP p x l = some l' → SR K R ρ l σ → Rep K R x v →
    (∀ σ', SR K R ρ l' σ' → ((∀ i ∈ pslots p, i ∈ vs) → L2.wipe σ' vs = L2.wipe σ vs) → Q σ' H) → gPat K p v σ H Q
  | .v i, x, v, l, l', σ, Q, e, sr, r, h => by
    simp only [SW.asgP, Option.some.injEq] at e
    subst e
    exact h _ (sr.set i (v := .v x) r) fun hi => wipe_set vs i (hi i (by simp [pslots])) _ σ
  | .t ps, x, v, l, l', σ, Q, e, sr, r, h => by
    cases x with
    | tup xs =>
      simp only [SW.asgP] at e
      obtain ⟨a, ys, rfl, h1, h2⟩ := r.tup_inv
      refine ⟨a, ys, rfl, .inl (SqT.mono s h1), ?_, pats_ok (vs := vs) s ps xs ys l l' σ Q e sr h2 h⟩
      rw [h2.length]; exact pats_len ps xs l l' e
    | lst xs =>
      simp only [SW.asgP] at e
      obtain ⟨a, ys, rfl, h1, h2⟩ := r.lst_inv
      refine ⟨a, ys, rfl, .inr (.inl (Rd.mono s h1)), ?_, pats_ok (vs := vs) s ps xs ys l l' σ Q e sr h2 h⟩
      rw [h2.length]; exact pats_len ps xs l l' e
    | _ => simp [SW.asgP] at e
theorem pats_len : ∀ (ps : List Pat) (xs : List PV) (l l' : SW.Loc), SW.asgPs ps xs l = some l' → xs.length = ps.length
  | [], xs, l, l', e => by cases xs <;> simp [SW.asgPs] at e; rfl
  | p :: ps, [], l, l', e => by simp [SW.asgPs] at e
  | p :: ps, x :: xs, l, l', e => by
    simp only [SW.asgPs] at e
    cases e1 : SW.asgP p x l with
    | none => rw [e1] at e; cases e
    | some l1 =>
      rw [e1] at e
      simp [pats_len ps xs l1 l' e]
theorem pats_ok {K : Fg} {R H : Hp} {ρ : List Addr} (s : Sub R H) {vs : List Nat} : ∀ (ps : List Pat) (xs : List PV) (ys : List V) (l l' : SW.Loc) (σ : L2.St) (Q : L2.St → Hp → Prop), SW.asgPs ps xs l = some l' → SR K R ρ l σ → Reps K R xs ys →
    (∀ σ', SR K R ρ l' σ' → ((∀ i ∈ psslots ps, i ∈ vs) → L2.wipe σ' vs = L2.wipe σ vs) → Q σ' H) → gPats K ps ys σ H Q
  | [], xs, ys, l, l', σ, Q, e, sr, r, h => by
    cases xs <;> simp [SW.asgPs] at e
    subst e
    cases r
    exact ⟨rfl, h σ sr fun _ => rfl⟩
  | p :: ps, [], ys, l, l', σ, Q, e, sr, r, h => by simp [SW.asgPs] at e
  | p :: ps, x :: xs, ys, l, l', σ, Q, e, sr, r, h => by
    simp only [SW.asgPs] at e
    cases e1 : SW.asgP p x l with
    | none => rw [e1] at e; cases e
    | some l1 =>
      rw [e1] at e
      obtain ⟨y, zs, rfl, r1, r2⟩ := r.cons_inv
      refine ⟨y, zs, rfl, pat_ok (vs := vs) s p x y l l1 σ _ e1 sr r1 fun σ1 sr1 w1 => ?_⟩
      refine pats_ok (vs := vs) s ps xs zs l1 l' σ1 Q e sr1 r2 fun σ2 sr2 w2 => h σ2 sr2 fun hi => ?_
      rw [w2 fun i him => hi i (by simp [psslots, him]), w1 fun i him => hi i (by simp [psslots, him])]
end
section
variable {X : Cx} {pos : Pos}
theorem PG.or {e : Expr} {t u : TG} (h : PG X e t) (h' : PG X e u) : PG X e fun v σ H Q => t v σ H Q ∨ u v σ H Q := ⟨fun pins s σ H v uu Q I r q => q.elim (h.run pins s σ H v uu Q I r) (h'.run pins s σ H v uu Q I r)⟩
theorem PG.imp {e : Expr} {t t' : TG} (h : PG X e t) (i : ∀ v σ H Q, t' v σ H Q → t v σ H Q) : PG X e t' := ⟨fun pins s σ H v uu Q I r q => h.run pins s σ H v uu Q I r (i _ _ _ _ q)⟩
theorem pg_t {es : List Expr} {k : Nat} {ps : List Pat} (hc : X.calm = true) (h : PGs X es (gPats X.K ps)) (hn : (assignEach es X.env).length = ps.length) (hst : (assignEach es X.env).findIdx? (·.1) = none) : PG X (.Tuple es k pos) (gPat X.K (.t ps)) := by
  refine PG.imp (PG.or (pg_tup hc h hn hst) (pg_lst hc h hn hst)) ?_
  rintro v σ H Q ⟨a, xs, rfl, hq, hl, hr⟩
  rcases hq with hq | hq
  · exact .inl ⟨a, xs, rfl, hq, hl, hr⟩
  · exact .inr ⟨a, xs, rfl, hq, hl, hr⟩
end

/-! ### what loops go along -/
/-- the things stand, shut, as told -/
def Held (r : Srcs) (μ : Mem) : Prop := ∀ p ∈ r, μ[p.1]? = some (.lk (.lst p.2))
theorem Held.keep {r : Srcs} {μ μ' : Mem} (h : Held r μ) (k : Keeps μ μ') : Held r μ' := fun p hp => k _ _ (h p hp)
/-- the things stand, as told -/
def There (r : Srcs) (μ : Mem) : Prop := ∀ p ∈ r, ∃ o, μ[p.1]? = some o ∧ SW.seqOf o = some p.2
def relI (K : Fg) : Hp → List Addr → List PV × Srcs → L2.It → Prop := fun R ρ r J =>
  ∀ (F R2 : Hp) (ρ2 : List Addr) (μ2 : Mem) (H2 : Hp), Sub R R2 → ρ <+: ρ2 → MR F K R2 ρ2 μ2 H2 → Held r.2 μ2 →
    (∀ i, i < r.1.length → J.go i H2) ∧ J.stop r.1.length H2 ∧ ∀ i y H', i < r.1.length → J.yld i H2 y H' → ∀ p, r.1[i]? = some p → ∃ R3, Sub R2 R3 ∧ MR F K R3 ρ2 μ2 H' ∧ Rep K R3 p y
theorem relI.mono {K : Fg} {R R1 : Hp} {ρ ρ1 : List Addr} {r : List PV × Srcs} {J : L2.It} (h : relI K R ρ r J) (s : Sub R R1) (p : ρ <+: ρ1) : relI K R1 ρ1 r J := fun F R2 ρ2 μ2 H2 s2 p2 m hd => h F R2 ρ2 μ2 H2 (s.trans s2) (p.trans p2) m hd
def liftI (K : Fg) (EC : Nat → Value) (W : WX) (g : LF (List PV × Srcs)) : TI := lift K EC W (relI K) g
theorem PI.imp {X : Cx} {tg e : Expr} {t t' : TI} (h : PI X tg e t) (i : ∀ σ H R, t' σ H R → t σ H R) : PI X tg e t' := ⟨fun pins s σ H R I q => h.run pins s σ H R I (i _ _ _ q)⟩
section
variable {K : Fg} {F R H : Hp} {ρ : List Addr} {μ : Mem}
/-- a value that may be gone along: a list or a tuple -/
def SeqV (K : Fg) (R H : Hp) (ρ : List Addr) (r : List PV × Srcs) (x : V) : Prop :=
  ∃ a k vs, x = .ref a ∧ SqV K k H a vs ∧ Reps K R r.1 vs ∧ ∀ (F R2 : Hp) (ρ2 : List Addr) (μ2 : Mem) (H2 : Hp), Sub R R2 → ρ <+: ρ2 → MR F K R2 ρ2 μ2 H2 → Held r.2 μ2 → ∃ ws, SqV K k H2 a ws ∧ Reps K R2 r.1 ws
theorem seqS_ok {α : Type} {rel : Hp → List Addr → α → L2.It → Prop} {Wx : Nat → Hp → Prop} {v : Val} {x : V} {r : List PV × Srcs} {μ' : Mem} (m : MR F K R ρ μ H) (rv : VR K R ρ v x) (e : SW.seqS v μ = .ok r μ') : μ' = μ ∧ There r.2 μ ∧ SeqV K R H ρ r x := by
  cases v with
  | v p =>
    cases p with
    | lst xs =>
      cases e
      obtain ⟨a, vs, rfl, h1, h2⟩ := Rep.lst_inv rv
      refine ⟨rfl, by intro p hp; simp at hp, a, true, vs, rfl, .inl (Rd.mono m.sub h1), h2, fun F R2 ρ2 μ2 H2 s p m2 hd => ⟨vs, .inl (Rd.mono (s.trans m2.sub) h1), h2.mono s⟩⟩
    | tup xs =>
      cases e
      obtain ⟨a, vs, rfl, h1, h2⟩ := Rep.tup_inv rv
      refine ⟨rfl, by intro p hp; simp at hp, a, false, vs, rfl, SqT.mono m.sub h1, h2, fun F R2 ρ2 μ2 H2 s p m2 hd => ⟨vs, SqT.mono (s.trans m2.sub) h1, h2.mono s⟩⟩
    | _ => cases e
  | o n =>
    obtain ⟨a, e1, rfl⟩ := rv
    unfold SW.seqS at e
    dsimp only at e
    cases e2 : μ[n]? with
    | none => rw [e2] at e; cases e
    | some o =>
      rw [e2] at e
      dsimp only at e
      cases e3 : SW.seqOf o with
      | none => rw [e3] at e; cases e
      | some xs =>
        rw [e3] at e
        cases e
        obtain ⟨vs, h1, h2⟩ := seqOf_or (m.obj n o a e2 e1) e3
        refine ⟨rfl, ?_, a, true, vs, rfl, .inl (.inl h1), h2, fun F R2 ρ2 μ2 H2 s p m2 hd => ?_⟩
        · intro p hp
          simp at hp
          subst hp
          exact ⟨o, e2, e3⟩
        · obtain ⟨t, rfl⟩ := p
          have h3 := hd (n, xs) (by simp)
          obtain ⟨ws, h4, h5⟩ := m2.obj n _ a h3 (by rw [List.getElem?_append_left (List.getElem?_eq_some_iff.mp e1).1]; exact e1)
          exact ⟨ws, .inl (.inl h4), h5⟩
theorem rangeL_get : ∀ (n : Nat) (lo : Int) (i : Nat) (p : PV), (SW.rangeL lo n)[i]? = some p → p = .int (lo + i)
  | 0, lo, i, p, h => by simp [SW.rangeL] at h
  | n + 1, lo, 0, p, h => by simp [SW.rangeL] at h; rw [← h]; simp
  | n + 1, lo, i + 1, p, h => by
    simp only [SW.rangeL, List.getElem?_cons_succ] at h
    rw [rangeL_get n (lo + 1) i p h]
    congr 1; omega
theorem rangeL_len : ∀ (n : Nat) (lo : Int), (SW.rangeL lo n).length = n
  | 0, lo => rfl
  | n + 1, lo => by simp [SW.rangeL, rangeL_len n]
theorem relI_range {R : Hp} {ρ : List Addr} (lo : Int) (n : Nat) : relI K R ρ (SW.rangeL lo n, []) (Itr lo n) := by
  intro F R2 ρ2 μ2 H2 s p m hd
  refine ⟨fun i hi => by rw [rangeL_len] at hi; exact hi, by show n ≤ _; rw [rangeL_len]; exact Nat.le_refl _, fun i y H' hi hy q hq => ?_⟩
  obtain ⟨rfl, rfl⟩ := hy
  exact ⟨R2, Sub.refl _, m, by rw [rangeL_get n lo i q hq]; exact .int _⟩
theorem relI_str {R : Hp} {ρ : List Addr} (s : List Nat) : relI K R ρ (s.map fun c => .str [c], []) (Its (toS s)) := by
  intro F R2 ρ2 μ2 H2 _ p m hd
  refine ⟨fun i hi => ?_, ?_, fun i y H' hi hy q hq => ?_⟩
  · show i < (toS s).cps.size
    simpa [toS] using hi
  · show (toS s).cps.size ≤ _
    simp [toS]
  · obtain ⟨rfl, c, hc, rfl⟩ := hy
    have hc' : s[i]? = some c := by simpa [toS] using hc
    rw [List.getElem?_map, hc'] at hq
    cases hq
    exact ⟨R2, Sub.refl _, m, .str [c]⟩
theorem relI_list {R : Hp} {ρ : List Addr} {r : List PV × Srcs} {a : Addr} (h : ∀ (F R2 : Hp) (ρ2 : List Addr) (μ2 : Mem) (H2 : Hp), Sub R R2 → ρ <+: ρ2 → MR F K R2 ρ2 μ2 H2 → Held r.2 μ2 → ∃ ws, SqV K true H2 a ws ∧ Reps K R2 r.1 ws) : relI K R ρ r (Itl K a) := by
  intro F R2 ρ2 μ2 H2 s p m hd
  obtain ⟨ws, h1, h2⟩ := h F R2 ρ2 μ2 H2 s p m hd
  refine ⟨fun i hi => ⟨ws, ws[i]'(by rw [h2.length]; exact hi), h1, List.getElem?_eq_getElem _⟩, ⟨ws, h1, by rw [h2.length]; exact Nat.le_refl _⟩, fun i y H' hi hy q hq => ?_⟩
  obtain ⟨rfl, hy⟩ := hy
  obtain ⟨z, ez, rz⟩ := h2.get hq
  rw [hy ws h1] at ez
  cases ez
  exact ⟨R2, Sub.refl _, m, rz⟩
theorem relI_tup {R : Hp} {ρ : List Addr} {r : List PV × Srcs} {a : Addr} (h : ∀ (F R2 : Hp) (ρ2 : List Addr) (μ2 : Mem) (H2 : Hp), Sub R R2 → ρ <+: ρ2 → MR F K R2 ρ2 μ2 H2 → Held r.2 μ2 → ∃ ws, SqV K false H2 a ws ∧ Reps K R2 r.1 ws) : relI K R ρ r (Itt K a) := by
  intro F R2 ρ2 μ2 H2 s p m hd
  obtain ⟨ws, h1, h2⟩ := h F R2 ρ2 μ2 H2 s p m hd
  refine ⟨fun i hi => ⟨ws, ws[i]'(by rw [h2.length]; exact hi), h1, List.getElem?_eq_getElem _⟩, ⟨ws, h1, by rw [h2.length]; exact Nat.le_refl _⟩, fun i y H' hi hy q hq => ?_⟩
  obtain ⟨rfl, hy⟩ := hy
  obtain ⟨z, ez, rz⟩ := h2.get hq
  rw [hy ws h1] at ez
  cases ez
  exact ⟨R2, Sub.refl _, m, rz⟩
theorem enumL_get : ∀ (xs : List PV) (lo : Int) (i : Nat) (p : PV), (SW.enumL lo xs)[i]? = some p → ∃ q, xs[i]? = some q ∧ p = .tup [.int (lo + i), q]
  | [], lo, i, p, h => by simp [SW.enumL] at h
  | x :: xs, lo, 0, p, h => by simp [SW.enumL] at h; exact ⟨x, rfl, by rw [← h]; simp⟩
  | x :: xs, lo, i + 1, p, h => by
    simp only [SW.enumL, List.getElem?_cons_succ] at h
    obtain ⟨q, h1, h2⟩ := enumL_get xs (lo + 1) i p h
    refine ⟨q, by simpa using h1, ?_⟩
    rw [h2]
    have : lo + 1 + (i : Int) = lo + ((i + 1 : Nat) : Int) := by omega
    rw [this]
theorem enumL_len : ∀ (xs : List PV) (lo : Int), (SW.enumL lo xs).length = xs.length
  | [], lo => rfl
  | x :: xs, lo => by simp [SW.enumL, enumL_len xs]
theorem zipL_get : ∀ (xs ys : List PV) (i : Nat) (p : PV), (SW.zipL xs ys)[i]? = some p → ∃ q r, xs[i]? = some q ∧ ys[i]? = some r ∧ p = .tup [q, r]
  | [], ys, i, p, h => by simp [SW.zipL] at h
  | x :: xs, [], i, p, h => by simp [SW.zipL] at h
  | x :: xs, y :: ys, 0, p, h => by simp [SW.zipL] at h; exact ⟨x, y, rfl, rfl, h.symm⟩
  | x :: xs, y :: ys, i + 1, p, h => by
    simp only [SW.zipL, List.getElem?_cons_succ] at h
    exact zipL_get xs ys i p h
theorem zipL_len : ∀ (xs ys : List PV), (SW.zipL xs ys).length = min xs.length ys.length
  | [], ys => by simp [SW.zipL]
  | x :: xs, [] => by simp [SW.zipL]
  | x :: xs, y :: ys => by simp [SW.zipL, zipL_len xs ys]
/-- a pair that was just laid -/
theorem pair_new {R2 H2 : Hp} {ρ2 : List Addr} {μ2 : Mem} {T : Addr} {x y : V} {p q : PV} (m : MR F K R2 ρ2 μ2 H2) (hT : H2 T = none) (r1 : Rep K R2 p x) (r2 : Rep K R2 q y) :
    ∃ R3, Sub R2 R3 ∧ MR F K R3 ρ2 μ2 (upd H2 T (.tup [x, y])) ∧ Rep K R3 (.tup [p, q]) (.ref T) := by
  obtain ⟨m', s'⟩ := m.frozen (o := .tup [x, y]) hT
  exact ⟨_, s', m', Rep.tup (.inl (.inl upd_same)) (.cons (r1.mono s') (.cons (r2.mono s') .nil))⟩
theorem relI_enumK {R : Hp} {ρ : List Addr} {r : List PV × Srcs} {a : Addr} {k : Bool} (h : ∀ (F R2 : Hp) (ρ2 : List Addr) (μ2 : Mem) (H2 : Hp), Sub R R2 → ρ <+: ρ2 → MR F K R2 ρ2 μ2 H2 → Held r.2 μ2 → ∃ ws, SqV K k H2 a ws ∧ Reps K R2 r.1 ws) : relI K R ρ (SW.enumL 0 r.1, r.2) (IteK K k a) := by
  intro F R2 ρ2 μ2 H2 s p m hd
  obtain ⟨ws, h1, h2⟩ := h F R2 ρ2 μ2 H2 s p m hd
  refine ⟨fun i hi => ⟨ws, ws[i]'(by rw [h2.length]; rw [enumL_len] at hi; exact hi), h1, List.getElem?_eq_getElem _⟩, ⟨ws, h1, by rw [h2.length, enumL_len]⟩, fun i y H' hi hy q hq => ?_⟩
  obtain ⟨T, x, rfl, hT, rfl, hx⟩ := hy
  obtain ⟨z, e1, rfl⟩ := enumL_get r.1 0 i q hq
  obtain ⟨u, eu, ru⟩ := h2.get e1
  rw [hx ws h1] at eu
  cases eu
  have : (0 : Int) + (i : Nat) = (i : Nat) := by omega
  rw [this]
  exact pair_new m hT (.int _) ru
theorem relI_enumS {R : Hp} {ρ : List Addr} (s : List Nat) : relI K R ρ (SW.enumL 0 (s.map fun c => .str [c]), []) (IteS (toS s)) := by
  intro F R2 ρ2 μ2 H2 _ p m hd
  refine ⟨fun i hi => ?_, ?_, fun i y H' hi hy q hq => ?_⟩
  · show i < (toS s).cps.size
    rw [enumL_len] at hi
    simpa [toS] using hi
  · show (toS s).cps.size = _
    rw [enumL_len]
    simp [toS]
  · obtain ⟨T, c, rfl, hT, rfl, hc⟩ := hy
    obtain ⟨z, e1, rfl⟩ := enumL_get _ 0 i q hq
    have hc' : s[i]? = some c := by simpa [toS] using hc
    rw [List.getElem?_map, hc'] at e1
    cases e1
    have : (0 : Int) + (i : Nat) = (i : Nat) := by omega
    rw [this]
    exact pair_new m hT (.int _) (.str [c])
theorem relI_zip {R : Hp} {ρ : List Addr} {r q : List PV × Srcs} {a b : Addr} {k1 k2 : Bool} (h : ∀ (F R2 : Hp) (ρ2 : List Addr) (μ2 : Mem) (H2 : Hp), Sub R R2 → ρ <+: ρ2 → MR F K R2 ρ2 μ2 H2 → Held r.2 μ2 → ∃ ws, SqV K k1 H2 a ws ∧ Reps K R2 r.1 ws)
    (h' : ∀ (F R2 : Hp) (ρ2 : List Addr) (μ2 : Mem) (H2 : Hp), Sub R R2 → ρ <+: ρ2 → MR F K R2 ρ2 μ2 H2 → Held q.2 μ2 → ∃ ws, SqV K k2 H2 b ws ∧ Reps K R2 q.1 ws) : relI K R ρ (SW.zipL r.1 q.1, r.2 ++ q.2) (ItzK K k1 k2 a b) := by
  intro F R2 ρ2 μ2 H2 s p m hd
  obtain ⟨ws, h1, h2⟩ := h F R2 ρ2 μ2 H2 s p m fun z hz => hd z (by simp [hz])
  obtain ⟨us, h3, h4⟩ := h' F R2 ρ2 μ2 H2 s p m fun z hz => hd z (by simp [hz])
  have l1 := h2.length
  have l2 := h4.length
  refine ⟨fun i hi => ?_, ⟨ws, us, h1, h3, by dsimp only; rw [zipL_len]; omega⟩, fun i y H' hi hy z hz => ?_⟩
  · dsimp only at hi
    rw [zipL_len] at hi
    exact ⟨ws, us, ws[i]'(by omega), us[i]'(by omega), h1, h3, List.getElem?_eq_getElem _, List.getElem?_eq_getElem _⟩
  · obtain ⟨T, x, y', rfl, hT, rfl, hx, hy⟩ := hy
    obtain ⟨z1, z2, e1, e2, rfl⟩ := zipL_get _ _ i z hz
    obtain ⟨u, eu, ru⟩ := h2.get e1
    obtain ⟨u', eu', ru'⟩ := h4.get e2
    rw [hx ws h1] at eu
    cases eu
    rw [hy us h3] at eu'
    cases eu'
    exact pair_new m hT ru ru'
end
section
variable {X : Cx} {EC : Nat → Value} {W : WX} {tg e e2 : Expr} {ga gb : LF Val} {pos p : Pos}
theorem ei_seq (ha : PE X e (liftE X.K EC W ga)) : PI X tg e (liftI X.K EC W fun l => do let x ← ga l; SW.seqT x) := by
  refine PI.imp (PE.PI3 ha) fun σ H R h => ?_
  obtain ⟨F, R0, ρ, l, μ, m, s, P⟩ := h
  refine lift_next (Wx := fun _ _ => True) m s P fun R1 ρ1 μ1 H1 v x s1 p1 m1 sr1 r1 P1 => ?_
  have base : ∀ v x, VR X.K R1 ρ1 v x → Post F X.K (relI X.K) (wx EC W σ) R1 ρ1 (SW.seqS v μ1) R →
      (∃ a, x = .ref a ∧ (∃ xs, SqL X.K H1 a xs) ∧ R (Itl X.K a) H1) ∨ (∃ a, x = .ref a ∧ (∃ xs, SqT X.K H1 a xs) ∧ R (Itt X.K a) H1) ∨ ∃ z, x = .str z ∧ R (Its z) H1 := by
    intro v x r1 P1
    cases e1 : SW.seqS v μ1 with
    | exn c μ' =>
      cases v with
      | v p => cases p <;> cases e1
      | o n =>
        unfold SW.seqS at e1
        dsimp only at e1
        split at e1
        · split at e1 <;> cases e1
        · cases e1
    | no => rw [e1] at P1; exact P1.elim
    | ok r μ' =>
      obtain ⟨rfl, _, a, k, vs, rfl, h1, h2, h3⟩ := seqS_ok (rel := fun _ _ _ _ => True) (Wx := fun _ _ => True) (α := Unit) m1 r1 e1
      rw [e1] at P1
      cases k with
      | true => exact .inl ⟨a, rfl, ⟨vs, h1⟩, P1.here m1 (relI_list h3)⟩
      | false => exact .inr (.inl ⟨a, rfl, ⟨vs, h1⟩, P1.here m1 (relI_tup h3)⟩)
  cases v with
  | o n => exact base (.o n) x r1 P1
  | v p =>
    cases p with
    | str t =>
      have hx := Rep.str_inv r1
      subst hx
      exact .inr (.inr ⟨toS t, rfl, Post.here P1 m1 (relI_str t)⟩)
    | lst ps => exact base (.v (.lst ps)) x r1 P1
    | tup ps => exact base (.v (.tup ps)) x r1 P1
    | _ => exact base _ x r1 P1
theorem ei_range1 (hg : Gl X "range") (hm : X.mg "range" = none) (ha : PE X e (liftE X.K EC W ga)) (hs : starEach [e] X.env = [(false, eval e X.env)]) :
    PI X tg (.Call (.Name "range" p) [e] [] pos) (liftI X.K EC W fun l => do
      let x ← ga l
      match x with
        | .v (.int n) => if decide (n < 4611686018427387904) && decide (-4611686018427387904 ≤ n) then pure (SW.rangeL 0 n.toNat, []) else SW.no
        | _ => SW.no) := by
  refine PI.imp (pi_range1 hg hm (pa_cons ha pa_nil hs) hs) fun σ H R h => ?_
  obtain ⟨F, R0, ρ, l, μ, m, s, P⟩ := h
  refine lift_next (Wx := fun _ _ => True) m s P fun R1 ρ1 μ1 H1 v x s1 p1 m1 sr1 r1 P1 => ?_
  cases v with
  | o n => exact P1.elim
  | v q =>
    cases q with
    | int n =>
      have hx := Rep.int_inv r1
      subst hx
      have P1 : Post F X.K (relI X.K) (wx EC W σ) R1 ρ1 ((if (decide (n < 4611686018427387904) && decide (-4611686018427387904 ≤ n)) = true then pure (SW.rangeL 0 n.toNat, []) else SW.no : M (List PV × Srcs)) μ1) R := P1
      split at P1
      · rename_i hn
        simp only [Bool.and_eq_true, decide_eq_true_eq] at hn
        exact ⟨n, rfl, by omega, by omega, Post.here P1 m1 (relI_range 0 n.toNat)⟩
      · exact P1.elim
    | _ => exact P1.elim
theorem ei_range2 (hg : Gl X "range") (hm : X.mg "range" = none) (ha : PE X e (liftE X.K EC W ga)) (hb : PE X e2 (liftE X.K EC W gb)) (hs : starEach [e, e2] X.env = [(false, eval e X.env), (false, eval e2 X.env)]) (hs2 : starEach [e2] X.env = [(false, eval e2 X.env)]) :
    PI X tg (.Call (.Name "range" p) [e, e2] [] pos) (liftI X.K EC W fun l => do
      let x ← ga l
      let y ← gb l
      match x, y with
        | .v (.int m), .v (.int n) =>
          if decide (m < 4611686018427387904) && decide (-4611686018427387904 ≤ m) && decide (n < 4611686018427387904) && decide (-4611686018427387904 ≤ n)
          then pure (SW.rangeL m (n - m).toNat, []) else SW.no
        | _, _ => SW.no) := by
  refine PI.imp (pi_range2 hg hm (pa_cons ha (pa_cons hb pa_nil hs2) (by rw [hs, hs2])) hs hs2) fun σ H R h => ?_
  obtain ⟨F, R0, ρ, l, μ, m, s, P⟩ := h
  refine lift_next (Wx := fun _ _ => True) m s P fun R1 ρ1 μ1 H1 v x s1 p1 m1 sr1 r1 P1 => ?_
  refine lift_next (Wx := fun _ _ => True) m1 sr1 P1 fun R2 ρ2 μ2 H2 w y s2 p2 m2 sr2 r2 P2 => ?_
  cases v with
  | o n => exact P2.elim
  | v q =>
    cases q with
    | int i =>
      cases w with
      | o n => exact P2.elim
      | v q =>
        cases q with
        | int n =>
          have hx := Rep.int_inv r1
          have hy := Rep.int_inv r2
          subst hx hy
          have P2 : Post F X.K (relI X.K) (wx EC W σ) R2 ρ2 ((if (decide (i < 4611686018427387904) && decide (-4611686018427387904 ≤ i) && decide (n < 4611686018427387904) && decide (-4611686018427387904 ≤ n)) = true then pure (SW.rangeL i (n - i).toNat, []) else SW.no : M (List PV × Srcs)) μ2) R := P2
          split at P2
          · rename_i hn
            simp only [Bool.and_eq_true, decide_eq_true_eq] at hn
            exact ⟨i, n, rfl, ⟨by omega, by omega, by omega, by omega⟩, Post.here P2 m2 (relI_range i (n - i).toNat)⟩
          · exact P2.elim
        | _ => exact P2.elim
    | _ => exact P2.elim
theorem ei_enum {elts : List Expr} {kk : Nat} {tpos : Pos} (hg : Gl X "enumerate") (hm : X.mg "enumerate" = none) (ha : PE X e (liftE X.K EC W ga)) (hs : starEach [e] X.env = [(false, eval e X.env)]) :
    PI X (.Tuple elts kk tpos) (.Call (.Name "enumerate" p) [e] [] pos) (liftI X.K EC W fun l => do let x ← ga l; let r ← SW.seqT x; pure (SW.enumL 0 r.1, r.2)) := by
  refine PI.imp (pi_enumK hg hm (pa_cons ha pa_nil hs) hs) fun σ H R h => ?_
  obtain ⟨F, R0, ρ, l, μ, m, s, P⟩ := h
  refine lift_next (Wx := fun _ _ => True) m s P fun R1 ρ1 μ1 H1 v x s1 p1 m1 sr1 r1 P1 => ?_
  have base : ∀ v x, VR X.K R1 ρ1 v x → Post F X.K (relI X.K) (wx EC W σ) R1 ρ1 ((SW.seqS v μ1).bind fun r μ => .ok (SW.enumL 0 r.1, r.2) μ) R →
      (∃ a xs k, [x] = [V.ref a] ∧ SqV X.K k H1 a xs ∧ R (IteK X.K k a) H1) ∨ ∃ z, [x] = [V.str z] ∧ R (IteS z) H1 := by
    intro v x r1 P1
    cases e1 : SW.seqS v μ1 with
    | exn c μ' =>
      cases v with
      | v p => cases p <;> cases e1
      | o n =>
        unfold SW.seqS at e1
        dsimp only at e1
        split at e1
        · split at e1 <;> cases e1
        · cases e1
    | no => rw [e1] at P1; exact P1.elim
    | ok r μ' =>
      obtain ⟨rfl, _, a, k, vs, rfl, h1, h2, h3⟩ := seqS_ok (rel := fun _ _ _ _ => True) (Wx := fun _ _ => True) (α := Unit) m1 r1 e1
      rw [e1] at P1
      exact .inl ⟨a, vs, k, rfl, h1, Post.here P1 m1 (relI_enumK h3)⟩
  cases v with
  | o n => exact base (.o n) x r1 P1
  | v p =>
    cases p with
    | str t =>
      have hx := Rep.str_inv r1
      subst hx
      exact .inr ⟨toS t, rfl, Post.here P1 m1 (relI_enumS t)⟩
    | lst ps => exact base (.v (.lst ps)) x r1 P1
    | tup ps => exact base (.v (.tup ps)) x r1 P1
    | _ => exact base _ x r1 P1
end
end SWS
end
section
set_option maxRecDepth 100000
/-! Comprehensions. -/
namespace SWS
open PySem PySem.Spec PyProof.Rows L2
open SW (PV Val MO Ky Mem Res M E OF Cn Pat Fl view flat flats ofO bin2 Srcs Keeps Pres)
theorem seqS_exn {v : Val} {μ : Mem} {c : Nat} {ν : Mem} : SW.seqS v μ ≠ .exn c ν := by
  intro e
  cases v with
  | v p => cases p <;> cases e
  | o n =>
    unfold SW.seqS at e
    dsimp only at e
    split at e
    · split at e <;> cases e
    · cases e
section
variable {X : Cx} {EC : Nat → Value} {W : WX} {tg e e2 : Expr} {ga gb : LF Val} {pos p : Pos}
theorem ei_zip {elts : List Expr} {kk : Nat} {tpos : Pos} (hg : Gl X "zip") (hm : X.mg "zip" = none) (ha : PE X e (liftE X.K EC W ga)) (hb : PE X e2 (liftE X.K EC W gb)) (hs : starEach [e, e2] X.env = (false, eval e X.env) :: starEach [e2] X.env) (hs2 : starEach [e2] X.env = [(false, eval e2 X.env)])
    (hpl : (backTo pos (starEach [e2] X.env)).any (·.1) = false) :
    PI X (.Tuple elts kk tpos) (.Call (.Name "zip" p) [e, e2] [] pos) (liftI X.K EC W fun l => do let x ← ga l; let y ← gb l; let r ← SW.seqS x; let q ← SW.seqS y; pure (SW.zipL r.1 q.1, r.2 ++ q.2)) := by
  refine PI.imp (pi_zipK hg hm (pa_cons ha (pa_cons hb pa_nil hs2) hs) hs hpl) fun σ H R h => ?_
  obtain ⟨F, R0, ρ, l, μ, m, s, P⟩ := h
  refine lift_next (Wx := fun _ _ => True) m s P fun R1 ρ1 μ1 H1 v x s1 p1 m1 sr1 r1 P1 => ?_
  refine lift_next (Wx := fun _ _ => True) m1 sr1 P1 fun R2 ρ2 μ2 H2 w y s2 p2 m2 sr2 r2 P2 => ?_
  have P2 : Post F X.K (relI X.K) (wx EC W σ) R2 ρ2 ((SW.seqS v μ2).bind fun r μ => (SW.seqS w μ).bind fun q μ => .ok (SW.zipL r.1 q.1, r.2 ++ q.2) μ) R := P2
  cases e1 : SW.seqS v μ2 with
  | exn c μ' => exact absurd e1 seqS_exn
  | no => rw [e1] at P2; exact P2.elim
  | ok r μ' =>
    obtain ⟨rfl, _, a, k, vs, rfl, h1, h2, h3⟩ := seqS_ok (rel := fun _ _ _ _ => True) (Wx := fun _ _ => True) (α := Unit) m2 (r1.mono s2 p2) e1
    rw [e1] at P2
    have P2 : Post F X.K (relI X.K) (wx EC W σ) R2 ρ2 ((SW.seqS w μ').bind fun q μ => .ok (SW.zipL r.1 q.1, r.2 ++ q.2) μ) R := P2
    cases e2 : SW.seqS w μ' with
    | exn c μ' => exact absurd e2 seqS_exn
    | no => rw [e2] at P2; exact P2.elim
    | ok q μ'' =>
      obtain ⟨rfl, _, b, k2, us, rfl, h4, h5, h6⟩ := seqS_ok (rel := fun _ _ _ _ => True) (Wx := fun _ _ => True) (α := Unit) m2 r2 e2
      rw [e2] at P2
      exact ⟨a, b, vs, us, k, k2, rfl, h1, h4, Post.here P2 m2 (relI_zip h3 h6)⟩
end
/-! ### locks -/
theorem OR.lock {K : Fg} {R H : Hp} {a : Addr} {xs : List PV} (h : OR K R H a (.lst xs)) : OR K R H a (.lk (.lst xs)) := h
theorem MR.same {K : Fg} {F R H : Hp} {ρ : List Addr} {μ : Mem} (m : MR F K R ρ μ H) {n : Nat} {o u : MO} (e : μ[n]? = some o) (h : ∀ a, OR K R H a o → OR K R H a u) : MR F K R ρ (μ.set n u) H := by
  refine ⟨m.fr, m.frR, m.sub, by simp [m.len], m.nd, m.out, fun k x a ek ea => ?_⟩
  by_cases hk : n = k
  · subst hk
    rw [List.getElem?_set_self (List.getElem?_eq_some_iff.mp e).1] at ek
    cases ek
    exact h a (m.obj n o a e ea)
  · rw [List.getElem?_set_ne hk] at ek
    exact m.obj k x a ek ea
theorem lock_MR {K : Fg} {F R H : Hp} {ρ : List Addr} : ∀ {r : Srcs} {μ : Mem} {ls : List Nat} {μ' : Mem}, MR F K R ρ μ H → There r μ → SW.lockM r μ = .ok ls μ' → MR F K R ρ μ' H ∧ Held r μ'
  | [], μ, ls, μ', m, t, e => by cases e; exact ⟨m, by intro p hp; simp at hp⟩
  | (n, ys) :: r, μ, ls, μ', m, t, e => by
    obtain ⟨o, ho, hs⟩ := t (n, ys) (by simp)
    have hn : n < μ.length := (List.getElem?_eq_some_iff.mp ho).1
    unfold SW.lockM at e
    dsimp only at ho
    rw [ho] at e
    cases o with
    | lst xs =>
      simp only [SW.seqOf, Option.some.injEq] at hs
      subst hs
      obtain ⟨ls', ν, e1, e2⟩ := SW.rbind_inv e
      cases e2
      have t' : There r (μ.set n (.lk (.lst xs))) := fun p hp => by
        obtain ⟨o, h1, h2⟩ := t p (by simp [hp])
        by_cases hk : n = p.1
        · refine ⟨.lk (.lst xs), by rw [← hk]; exact List.getElem?_set_self hn, ?_⟩
          rw [← hk, ho] at h1
          cases h1
          exact h2
        · exact ⟨o, by rw [List.getElem?_set_ne hk]; exact h1, h2⟩
      obtain ⟨m', hd⟩ := lock_MR (m.same ho fun a => OR.lock) t' e1
      refine ⟨m', fun p hp => ?_⟩
      rcases List.mem_cons.mp hp with rfl | hp
      · exact (SW.lockM_inv r _ _ _ e1).1 n _ (List.getElem?_set_self hn)
      · exact hd p hp
    | lk o =>
      cases o with
      | lst xs =>
        simp only [SW.seqOf, Option.some.injEq] at hs
        subst hs
        obtain ⟨m', hd⟩ := lock_MR m (fun p hp => t p (by simp [hp])) e
        refine ⟨m', fun p hp => ?_⟩
        rcases List.mem_cons.mp hp with rfl | hp
        · exact (SW.lockM_inv r _ _ _ e).1 n _ ho
        · exact hd p hp
      | _ => simp [SW.seqOf] at hs
    | _ => simp [SW.seqOf] at hs
theorem unlock_MR {K : Fg} {F R H : Hp} {ρ : List Addr} : ∀ {ls : List Nat} {μ : Mem} {u : Unit} {μ' : Mem}, MR F K R ρ μ H → SW.unlockM ls μ = .ok u μ' → MR F K R ρ μ' H
  | [], μ, u, μ', m, e => by cases e; exact m
  | n :: r, μ, u, μ', m, e => by
    unfold SW.unlockM at e
    split at e
    · rename_i xs ho
      exact unlock_MR (m.same ho (u := .lst xs) fun a ha => ha) e
    · cases e
/-! ### a list that grows beside the store -/
section
variable {K : Fg} {F R H : Hp} {ρ : List Addr} {μ : Mem} {D : Addr} {o u : HO}
theorem MR.frame_in (m : MR F K R ρ μ H) (h : H D = none) (o : HO) : MR (upd F D o) K R ρ μ (upd H D o) := by
  have hRD : R D = none := by
    cases e : R D with
    | none => rfl
    | some u => rw [m.sub D u e] at h; cases h
  have hD : D ∉ ρ := fun ha => by
    obtain ⟨i, hi⟩ := List.mem_iff_getElem?.mp ha
    have hlt := (List.getElem?_eq_some_iff.mp hi).1
    have hx : i < μ.length := by rw [← m.len]; exact hlt
    obtain ⟨w, hw⟩ := (m.obj i _ D (List.getElem?_eq_getElem hx) hi).some
    rw [h] at hw; cases hw
  have m' := m.heap (Sub.new (o := o) h)
  refine ⟨fun a x e => ?_, fun a x e => ?_, m'.sub, m'.len, m'.nd, m'.out, m'.obj⟩
  · by_cases ha : a = D
    · subst ha; rw [upd_same] at e ⊢; exact e
    · rw [upd_ne ha] at e ⊢; exact m.fr a x e
  · by_cases ha : a = D
    · subst ha; exact ⟨hRD, fun z => absurd z hD⟩
    · rw [upd_ne ha] at e; exact m.frR a x e
theorem MR.frame_at (m : MR (upd F D o) K R ρ μ H) (nf : ∀ ob v, o ≠ .frz ob v) : H D = some o ∧ R D = none ∧ D ∉ ρ := ⟨m.fr D o upd_same, (m.frR D o upd_same).1, fun z => by
  obtain ⟨ob, v, e⟩ := (m.frR D o upd_same).2 z
  exact nf ob v e⟩
theorem MR.frame_out (m : MR (upd F D o) K R ρ μ H) (hF : F D = none) : MR F K R ρ μ H := by
  have up : ∀ a x, F a = some x → upd F D o a = some x := fun a x e => by
    rw [upd_ne (fun z => by subst z; rw [hF] at e; cases e)]; exact e
  exact ⟨fun a x e => m.fr a x (up a x e), fun a x e => m.frR a x (up a x e), m.sub, m.len, m.nd, m.out, m.obj⟩
theorem MR.frame_put (m : MR (upd F D o) K R ρ μ H) (nf : ∀ ob v, o ≠ .frz ob v) (u : HO) : MR (upd F D u) K R ρ μ (upd H D u) := by
  obtain ⟨h1, h2, h3⟩ := m.frame_at nf
  refine ⟨fun a x e => ?_, fun a x e => ?_, fun a x e => ?_, m.len, m.nd, m.out, fun n x a e e' => ?_⟩
  · by_cases ha : a = D
    · subst ha; rw [upd_same] at e ⊢; exact e
    · rw [upd_ne ha] at e ⊢; exact m.fr a x (by rw [upd_ne ha]; exact e)
  · by_cases ha : a = D
    · subst ha; exact ⟨h2, fun z => absurd z h3⟩
    · rw [upd_ne ha] at e; exact m.frR a x (by rw [upd_ne ha]; exact e)
  · rw [upd_ne (fun z => by subst z; rw [h2] at e; cases e)]; exact m.sub a x e
  · exact (m.obj n x a e e').at (upd_ne fun z => by subst z; exact h3 (List.mem_of_getElem? e'))
/-- it becomes a value -/
theorem MR.adoptR (m : MR F K R ρ μ H) (h : H D = some o) (h1 : R D = none) (h2 : D ∉ ρ) (h3 : F D = none) : MR F K (upd R D o) ρ μ H ∧ Sub R (upd R D o) := by
  have s : Sub R (upd R D o) := Sub.new h1
  refine ⟨⟨m.fr, fun a x e => ?_, fun a x e => ?_, m.len, m.nd, fun a ha => ?_, fun n x a e e' => (m.obj n x a e e').mono s⟩, s⟩
  · refine ⟨?_, (m.frR a x e).2⟩
    rw [upd_ne (fun z => by subst z; rw [h3] at e; cases e)]; exact (m.frR a x e).1
  · by_cases ha : a = D
    · subst ha; rw [upd_same] at e; cases e; exact h
    · rw [upd_ne ha] at e; exact m.sub a x e
  · rw [upd_ne (fun z => by subst z; exact h2 ha)]; exact m.out a ha
/-- it becomes a thing of the store -/
theorem MR.adoptO {x : MO} (m : MR F K R ρ μ H) (h : OR K R H D x) (h1 : R D = none) (h2 : D ∉ ρ) (h3 : F D = none) : MR F K R (ρ ++ [D]) (μ ++ [x]) H := by
  refine ⟨m.fr, fun a y e => ⟨(m.frR a y e).1, fun hm => ?_⟩, m.sub, by simp [m.len], ?_, fun a ha => ?_, fun n y a e e' => ?_⟩
  · rcases List.mem_append.mp hm with hm | hm
    · exact (m.frR a y e).2 hm
    · simp at hm; subst hm; rw [h3] at e; cases e
  · rw [List.nodup_append]
    exact ⟨m.nd, by simp, fun a ha b hb => by simp at hb; subst hb; exact fun e => h2 (e ▸ ha)⟩
  · rcases List.mem_append.mp ha with ha | ha
    · exact m.out a ha
    · simp at ha; subst ha; exact h1
  · by_cases hn : n < μ.length
    · rw [List.getElem?_append_left hn] at e
      rw [List.getElem?_append_left (by rw [m.len]; exact hn)] at e'
      exact m.obj n y a e e'
    · have hx := (List.getElem?_eq_some_iff.mp e).1
      have hnn : n = μ.length := by simp at hx; omega
      subst hnn
      rw [List.getElem?_append_right (Nat.le_refl _)] at e
      rw [List.getElem?_append_right (by rw [m.len]; exact Nat.le_refl _)] at e'
      simp [m.len] at e e'
      subst e e'
      exact h
end
/-! ### the core -/
def stepC (p : Pat) (own : List Nat) (gc : LF Bool) (ge : LF Val) : SW.Loc → PV → M (Option PV) := fun l x => SW.noX (match SW.asgP p x (SW.wipeL l own) with
  | some l' => do
    let ok ← gc l'
    if ok then (do
      let v ← ge l'
      let y ← flat v
      pure (some y))
    else pure none
  | none => SW.no)
def gComp (gi : LF (List PV × Srcs)) (st : SW.Loc → PV → M (Option PV)) (fin : List PV → M Val) : LF Val := fun l => do
  let r ← gi l
  let ls ← SW.lockM r.2
  let ys ← SW.compL (st l) r.1
  SW.unlockM ls
  fin ys
theorem compL_cons {α : Type} (f : PV → M (Option α)) (x : PV) (xs : List PV) (μ : Mem) : SW.compL f (x :: xs) μ = (f x μ).bind fun y μ1 => (SW.compL f xs μ1).bind fun ys μ2 => .ok (SW.consO y ys) μ2 := rfl
theorem compL_exn {α : Type} {f : PV → M (Option α)} (h : ∀ x μ c ν, f x μ ≠ .exn c ν) : ∀ (xs : List PV) (μ : Mem) (c : Nat) (ν : Mem), SW.compL f xs μ ≠ .exn c ν
  | [], μ, c, ν => by intro e; cases e
  | x :: xs, μ, c, ν => by
    intro e
    rw [compL_cons] at e
    cases e1 : f x μ with
    | exn c' μ1 => exact h x μ c' μ1 e1
    | no => rw [e1] at e; cases e
    | ok y μ1 =>
      rw [e1, SW.rbind_ok] at e
      cases e2 : SW.compL f xs μ1 with
      | exn c' μ2 => exact compL_exn h xs μ1 c' μ2 e2
      | no => rw [e2] at e; cases e
      | ok ys μ2 => rw [e2] at e; cases e
theorem unlockM_exn : ∀ (ls : List Nat) (μ : Mem) (c : Nat) (ν : Mem), SW.unlockM ls μ ≠ .exn c ν
  | [], μ, c, ν => by intro e; cases e
  | n :: ls, μ, c, ν => by
    intro e
    unfold SW.unlockM at e
    split at e
    · exact unlockM_exn ls _ c ν e
    · cases e
theorem lockM_exn : ∀ (r : Srcs) (μ : Mem) (c : Nat) (ν : Mem), SW.lockM r μ ≠ .exn c ν
  | [], μ, c, ν => by intro e; cases e
  | q :: r, μ, c, ν => by
    intro e
    unfold SW.lockM at e
    split at e
    · rename_i xs h1
      cases e1 : SW.lockM r (μ.set q.1 (.lk (.lst xs))) with
      | ok a b => rw [e1] at e; cases e
      | exn a b => rw [e1] at e; cases e; exact lockM_exn r _ _ _ e1
      | no => rw [e1] at e; cases e
    · exact lockM_exn r _ _ _ e
    · cases e
theorem wipe_get : ∀ (vs : List Nat) (σ : L2.St) (i : Nat), (L2.wipe σ vs)[i]? = if i ∈ vs ∧ i < σ.length then some none else σ[i]?
  | [], σ, i => by simp [L2.wipe]
  | v :: vs, σ, i => by
    unfold L2.wipe
    by_cases h : v = i
    · subst h
      by_cases hl : v < σ.length
      · rw [List.getElem?_set_self (by rw [L2.wipe_length]; exact hl), if_pos ⟨by simp, hl⟩]
      · rw [List.getElem?_eq_none (by simp [L2.wipe_length]; omega), if_neg (by simp [hl]), List.getElem?_eq_none (by omega)]
    · rw [List.getElem?_set_ne h, wipe_get vs σ i]
      have : (i ∈ v :: vs ∧ i < σ.length) ↔ (i ∈ vs ∧ i < σ.length) := by
        simp only [List.mem_cons]
        constructor
        · rintro ⟨h1 | h1, h2⟩
          · exact absurd h1.symm h
          · exact ⟨h1, h2⟩
        · exact fun h => ⟨.inr h.1, h.2⟩
      simp only [this]
theorem wipe_idem (vs : List Nat) (σ : L2.St) : L2.wipe (L2.wipe σ vs) vs = L2.wipe σ vs := by
  apply List.ext_getElem?
  intro i
  rw [wipe_get, wipe_get, L2.wipe_length]
  split <;> rfl
def okX {α β : Type} (r : Res α) (k : α → Mem → Res β) : Res β := match r with | .ok a ν => k a ν | _ => .no
theorem noX_bind {α β : Type} (x : M α) (f : α → M β) (μ : Mem) : SW.noX (x >>= f) μ = okX (x μ) fun a ν => SW.noX (f a) ν := by
  unfold SW.noX
  cases e : x μ with
  | ok a ν => rw [SW.bind_ap, e]; rfl
  | exn c ν => rw [SW.bind_ap, e]; rfl
  | no => rw [SW.bind_ap, e]; rfl
theorem noX_exn {α : Type} {x : M α} {μ : Mem} {c : Nat} {ν : Mem} : SW.noX x μ ≠ .exn c ν := by
  intro e
  unfold SW.noX at e
  split at e <;> cases e
/-- what behind the last item makes a thing of the items -/
structure FinOk (K : Fg) (fin : List PV → M Val) : Prop where
  len : ∀ ys μ, fin ys μ ≠ .no → ys.length ≤ 16777216
  ok : ∀ (F R H : Hp) (ρ : List Addr) (μ : Mem) (D : Addr) (ys : List PV) (vs : List V) (Q : VK) (Wx : Nat → Hp → Prop), MR F K R ρ μ H → H D = some (.lst vs) → R D = none → D ∉ ρ → F D = none → Reps K R ys vs → Post F K (VR K) Wx R ρ (fin ys μ) Q → Q (.ref D) H
theorem compL_step {f : PV → M (Option PV)} {x : PV} {xs : List PV} {μ : Mem} {γ : Type} {k : List PV → Mem → Res γ} : (SW.compL f (x :: xs) μ).bind k = (f x μ).bind fun y ν => (SW.compL f xs ν).bind fun ys τ => k (SW.consO y ys) τ := by
  rw [compL_cons, rbind_assoc]
  congr 1
  funext y ν
  rw [rbind_assoc]
  rfl
/-- what comes at the end bounds what stands -/
theorem post_len {K : Fg} {F R : Hp} {ρ : List Addr} {Wx : Nat → Hp → Prop} {Q : VK} {f : PV → M (Option PV)} {fin : List PV → M Val} (hf : FinOk K fin) (h : ∀ x μ c ν, f x μ ≠ .exn c ν) {xs acc : List PV} {ls : List Nat} {μ : Mem}
    (P : Post F K (VR K) Wx R ρ ((SW.compL f xs μ).bind fun ys ν => (SW.unlockM ls ν).bind fun _ τ => fin (acc ++ ys) τ) Q) : acc.length ≤ 16777216 := by
  cases e1 : SW.compL f xs μ with
  | no => rw [e1] at P; exact P.elim
  | exn c ν => exact absurd e1 (compL_exn h xs μ c ν)
  | ok ys ν =>
    rw [e1, SW.rbind_ok] at P
    cases e2 : SW.unlockM ls ν with
    | no => rw [e2] at P; exact P.elim
    | exn c τ => exact absurd e2 (unlockM_exn ls ν c τ)
    | ok u τ =>
      rw [e2, SW.rbind_ok] at P
      have := hf.len (acc ++ ys) τ (fun z => by rw [z] at P; exact P)
      rw [List.length_append] at this
      omega
theorem comp_core {K : Fg} {EC EC' : Nat → Value} {W W' : WX} {gi : LF (List PV × Srcs)} {p : Pat} {own : List Nat} {gc : LF Bool} {ge : LF Val} {fin : List PV → M Val} (hp : ∀ i ∈ pslots p, i ∈ own) (hc : ∀ l, Pres (gc l)) (he : ∀ l, Pres (ge l))
    (ht : ∀ l μ r μ', gi l μ = .ok r μ' → There r.2 μ') (hf : FinOk K fin) {σ : L2.St} {H : Hp} {Q : VK} (h : liftE K EC W (gComp gi (stepC p own gc ge) fin) σ H Q) :
    tLc (liftI K EC W gi) (gPat K p) (liftT K EC' W' gc) (liftE K EC' W' ge) own σ H Q := by
  refine lift_bindE h fun F R ρ l μ0 μ1 H1 r J e0 m1 sr rI P => ?_
  obtain ⟨xs, src⟩ := r
  have hthere := ht _ _ _ _ e0
  dsimp only at P hthere
  intro D hD
  have P : Post F K (VR K) (wx EC W σ) R ρ ((SW.lockM src μ1).bind fun ls μ2 => (SW.compL (stepC p own gc ge l) xs μ2).bind fun ys μ3 => (SW.unlockM ls μ3).bind fun _ μ4 => fin ys μ4) Q := P
  cases el : SW.lockM src μ1 with
  | no => rw [el] at P; exact P.elim
  | exn c ν => exact absurd el (lockM_exn src μ1 c ν)
  | ok ls μ2 =>
    rw [el] at P
    obtain ⟨m2, hd2⟩ := lock_MR m1 hthere el
    have hFD : F D = none := by
      cases e : F D with
      | none => rfl
      | some u => rw [m1.fr D u e] at hD; cases hD
    -- the word of a turn
    let Wd : Nat → Hp → Prop := fun i H => ∃ Ri ρi μi accP acc, Sub R Ri ∧ ρ <+: ρi ∧ MR (upd F D (.lst acc)) K Ri ρi μi H ∧ Reps K Ri accP acc ∧ Keeps μ2 μi ∧
      Post F K (VR K) (wx EC W σ) Ri ρi ((SW.compL (stepC p own gc ge l) (xs.drop i) μi).bind fun ys ν => (SW.unlockM ls ν).bind fun _ τ => fin (accP ++ ys) τ) Q
    refine ⟨fun i m H => m = xs.length - i ∧ i ≤ xs.length ∧ Wd i H, ⟨xs.length, by simp, Nat.zero_le _, R, ρ, μ2, [], [], Sub.refl R, List.prefix_refl ρ, m2.frame_in hD _, .nil, Keeps.refl _, P⟩, ?_⟩
    rintro i m H2 ⟨rfl, hi, Ri, ρi, μi, accP, acc, si, pi, mi, ri, ki, Pi⟩
    have Wi := rI (upd F D (.lst acc)) Ri ρi μi H2 si pi mi (hd2.keep ki)
    dsimp only at Wi
    obtain ⟨go, stop, yld⟩ := Wi
    by_cases hlt : i < xs.length
    · refine .inr ⟨go i hlt, Wd (i + 1), fun H' w => ⟨xs.length - (i + 1), by omega, rfl, hlt, w⟩, fun x H' hy => ?_⟩
      obtain ⟨R3, s3, m3, rx⟩ := yld i x H' hlt hy _ (List.getElem?_eq_getElem hlt)
      rw [List.drop_eq_getElem_cons hlt, compL_step] at Pi
      have hx : ∀ x μ c ν, stepC p own gc ge l x μ ≠ .exn c ν := fun x μ c ν => noX_exn
      cases ea : SW.asgP p xs[i] (SW.wipeL l own) with
      | none =>
        have : stepC p own gc ge l xs[i] μi = .no := by unfold stepC; rw [ea]; rfl
        rw [this] at Pi
        exact Pi.elim
      | some l' =>
        have sr3 : SR K R3 ρi (SW.wipeL l own) (L2.wipe σ own) := (sr.mono (si.trans s3) pi).wipe own
        refine pat_ok (vs := own) m3.sub p xs[i] x _ l' _ _ ea sr3 rx fun σ2 sr2 w2 => ?_
        have P3 := Pi.mono s3 (List.prefix_refl ρi)
        have hst : stepC p own gc ge l xs[i] μi = okX (gc l' μi) fun ok ν => SW.noX (if ok then (do
              let v ← ge l'
              let y ← flat v
              pure (some y)) else pure none : M (Option PV)) ν := by
          unfold stepC
          rw [ea]
          exact noX_bind (gc l') (fun ok => (if ok then (do
              let v ← ge l'
              let y ← flat v
              pure (some y)) else pure none : M (Option PV))) μi
        rw [hst] at P3
        refine ⟨(w2 hp).trans (wipe_idem own σ), upd F D (.lst acc), R3, ρi, l', μi, m3, sr2, ?_⟩
        cases eg : gc l' μi with
        | no => rw [eg] at P3; exact P3.elim
        | exn c ν => rw [eg] at P3; exact P3.elim
        | ok b μ3 =>
          rw [eg] at P3
          have k3 : Keeps μ2 μ3 := ki.trans (hc l' μi b μ3 eg)
          intro R4 ρ4 H4 b' s4 p4 m4 rb
          have rb : b = b' := rb
          subst rb
          have P4 := P3.mono s4 p4
          cases b with
          | false =>
            rw [if_neg Bool.false_ne_true]
            exact ⟨R4, ρ4, μ3, accP, acc, (si.trans s3).trans s4, pi.trans p4, m4, ri.mono (s3.trans s4), k3, P4⟩
          | true =>
            rw [if_pos rfl]
            have P4 : Post F K (VR K) (wx EC W σ) R4 ρ4 ((SW.noX (ge l' >>= fun v => flat v >>= fun y => pure (some y) : M (Option PV)) μ3).bind fun y ν => (SW.compL (stepC p own gc ge l) (xs.drop (i + 1)) ν).bind fun ys τ => (SW.unlockM ls τ).bind fun _ τ => fin (accP ++ SW.consO y ys) τ) Q := P4
            rw [noX_bind] at P4
            refine ⟨upd F D (.lst acc), R4, ρ4, l', μ3, m4, sr2.mono s4 p4, ?_⟩
            cases ev : ge l' μ3 with
            | no => rw [ev] at P4; exact P4.elim
            | exn c ν => rw [ev] at P4; exact P4.elim
            | ok v μ4 =>
              rw [ev] at P4
              intro R5 ρ5 H5 y s5 p5 m5 rv
              cases v with
              | o n => exact P4.elim
              | v q =>
                have P5 : Post F K (VR K) (wx EC W σ) R5 ρ5 ((SW.compL (stepC p own gc ge l) (xs.drop (i + 1)) μ4).bind fun ys τ => (SW.unlockM ls τ).bind fun _ τ => fin ((accP ++ [q]) ++ ys) τ) Q := by
                  have := P4.mono s5 p5
                  simp only [List.append_assoc, List.singleton_append]
                  exact this
                have ra : Reps K R5 (accP ++ [q]) (acc ++ [y]) := (ri.mono ((s3.trans s4).trans s5)).append (.cons rv .nil)
                have hlen := post_len hf hx P5
                refine ⟨acc, (m5.frame_at fun _ _ z => by cases z).1, ?_, R5, ρ5, μ4, accP ++ [q], acc ++ [y], ((si.trans s3).trans s4).trans s5, (pi.trans p4).trans p5, m5.frame_put (fun _ _ z => by cases z) _, ra, k3.trans (he l' μ3 _ μ4 ev), P5⟩
                have h2 := ra.length
                rw [List.length_append, List.length_append] at h2
                rw [List.length_append] at hlen
                simp only [List.length_singleton] at h2 hlen
                rw [sizeLine_eq]; omega
    · have hil : i = xs.length := by omega
      subst hil
      refine .inl ⟨stop, ?_⟩
      rw [List.drop_length] at Pi
      have Pi : Post F K (VR K) (wx EC W σ) Ri ρi ((SW.unlockM ls μi).bind fun _ τ => fin (accP ++ []) τ) Q := Pi
      rw [List.append_nil] at Pi
      cases eu : SW.unlockM ls μi with
      | no => rw [eu] at Pi; exact Pi.elim
      | exn c ν => exact absurd eu (unlockM_exn ls μi c ν)
      | ok u τ =>
        rw [eu] at Pi
        obtain ⟨hH, hR, hρ⟩ := mi.frame_at fun _ _ z => by cases z
        exact hf.ok F Ri H2 ρi τ D accP acc Q _ (unlock_MR (mi.frame_out hFD) eu) hH hR hρ hFD ri Pi
end SWS
end
section
set_option maxRecDepth 100000
/-! Statements. -/
namespace SWS
open PySem PySem.Spec PyProof.Rows L2
open SW (PV Val MO Ky Mem Res M E OF Cn Pat Fl view flat flats ofO bin2 Srcs Keeps Pres)
def relFl (K : Fg) : Hp → List Addr → SW.Loc × Fl → L2.St ⊕ V → Prop := fun R ρ z y => match z.2, y with
  | .nx, .inl σ => SR K R ρ z.1 σ
  | .ret v, .inr x => VR K R ρ v x
  | _, _ => False
def DQ (D : Ends) : L2.St ⊕ V → Hp → Prop := fun y H => match y with
  | .inl σ => D.nx σ H
  | .inr x => D.rt x H
def liftS (K : Fg) (EC : Nat → Value) (W : WX) (g : LF (SW.Loc × Fl)) : TS := fun D σ H => lift K EC W (relFl K) g σ H (DQ D)
/-- a wish about exceptions that does not look at the names -/
def WOk (W : WX) : Prop := ∀ e d σ σ' H, W e d σ H → W e d σ' H
theorem wx_eq {EC : Nat → Value} {W : WX} (hW : WOk W) (σ σ' : L2.St) : wx EC W σ = wx EC W σ' := by
  funext c H
  exact propext ⟨fun h => hW _ _ _ _ _ h, fun h => hW _ _ _ _ _ h⟩
section
variable {X : Cx}
theorem PS.imp {st : Stmt} {t t' : TS} (h : PS X st t) (i : ∀ D σ H, t' D σ H → t D σ H) : PS X st t' := ⟨fun pins s σ H D I q => h.run pins s σ H D I (i _ _ _ q)⟩
theorem PSs.imp {st : List Stmt} {t t' : TS} (h : PSs X st t) (i : ∀ D σ H, t' D σ H → t D σ H) : PSs X st t' := ⟨fun pins s σ H D I q => h.run pins s σ H D I (i _ _ _ q)⟩
end
/-- an end that goes on -/
theorem Post.nx {K : Fg} {F R H : Hp} {ρ : List Addr} {μ : Mem} {Wx : Nat → Hp → Prop} {D : Ends} {l : SW.Loc} {σ : L2.St} (P : Post F K (relFl K) Wx R ρ (.ok (l, .nx) μ) (DQ D)) (m : MR F K R ρ μ H) (s : SR K R ρ l σ) : D.nx σ H := P.here m (y := Sum.inl σ) s
theorem Post.rt {K : Fg} {F R H : Hp} {ρ : List Addr} {μ : Mem} {Wx : Nat → Hp → Prop} {D : Ends} {l : SW.Loc} {v : Val} {x : V} (P : Post F K (relFl K) Wx R ρ (.ok (l, .ret v) μ) (DQ D)) (m : MR F K R ρ μ H) (s : VR K R ρ v x) : D.rt x H := P.here m (y := Sum.inr x) s
section
variable {X : Cx} {EC : Nat → Value} {W : WX} {e o i : Expr} {ge go gi : LF Val} {pos : Pos} {st : Stmt} {rest : List Stmt}
/-! ### blocks -/
theorem es_nil : PSs X [] (liftS X.K EC W fun l => pure (l, .nx)) := by
  refine PSs.imp pss_nil fun D σ H h => ?_
  obtain ⟨F, R, ρ, l, μ, m, s, P⟩ := h
  exact Post.nx P m s
theorem es_cons (hW : WOk W) {g1 g2 : LF (SW.Loc × Fl)} (h1 : PS X st (liftS X.K EC W g1)) (h2 : PSs X rest (liftS X.K EC W g2)) :
    PSs X (st :: rest) (liftS X.K EC W fun l => do
      let z ← g1 l
      match z.2 with
        | .nx => g2 z.1
        | .ret v => pure (z.1, .ret v)) := by
  refine PSs.imp (pss_cons h1 h2) fun D σ H h => ?_
  obtain ⟨F, R, ρ, l, μ, m, s, P⟩ := h
  refine ⟨F, R, ρ, l, μ, m, s, Post.imp (Post.bind (rel := relFl X.K) P) ?_⟩
  rintro y H1 ⟨R1, ρ1, z, μ1, s1, p1, m1, r1, _, P1⟩
  obtain ⟨l1, fl⟩ := z
  cases fl with
  | nx =>
    cases y with
    | inr x => exact r1.elim
    | inl σ1 =>
      refine ⟨F, R1, ρ1, l1, μ1, m1, r1, ?_⟩
      rw [wx_eq hW σ1 σ]
      exact P1
  | ret v =>
    cases y with
    | inl σ1 => exact r1.elim
    | inr x => exact (Post.rt (D := D) P1 m1 r1 : D.rt x H1)
/-! ### small statements -/
theorem es_expr (he : PE X e (liftE X.K EC W ge)) (hs : swapsWith e none pos.line X.env = pure false) : PS X (.Expr e pos) (liftS X.K EC W fun l => do let _ ← ge l; pure (l, .nx)) := by
  refine PS.imp (ps_expr he hs) fun D σ H h => ?_
  exact lift_bind h fun F R ρ l μ H1 v x m s r P => Post.nx P m s
theorem es_ret (he : PE X e (liftE X.K EC W ge)) : PS X (.Return (some e) pos) (liftS X.K EC W fun l => do let v ← ge l; pure (l, .ret v)) := by
  refine PS.imp (ps_ret he) fun D σ H h => ?_
  exact lift_bind h fun F R ρ l μ H1 v x m s r P => Post.rt P m r
theorem es_if {c : Expr} {a b : List Stmt} {gc : LF Bool} {ga gb : LF (SW.Loc × Fl)} (hc : PT X c (liftT X.K EC W gc)) (ha : PSs X a (liftS X.K EC W ga)) (hb : PSs X b (liftS X.K EC W gb)) :
    PS X (.If c a b pos) (liftS X.K EC W fun l => do let x ← gc l; if x then ga l else gb l) := by
  refine PS.imp (ps_if hc ha hb) fun D σ H h => ?_
  refine lift_bind h fun F R ρ l μ H1 v x m s r P => ?_
  have r : v = x := r
  subst r
  cases v with
  | true => rw [if_pos rfl]; exact ⟨F, R, ρ, l, μ, m, s, P⟩
  | false => rw [if_neg Bool.false_ne_true]; exact ⟨F, R, ρ, l, μ, m, s, P⟩
/-- what is never come to -/
theorem es_never : PS X st (liftS X.K EC W fun _ => SW.no) := by
  refine PS.imp ps_never fun D σ H h => ?_
  obtain ⟨F, R, ρ, l, μ, m, s, P⟩ := h
  exact P
theorem ee_never {te : TE} : PE X e (liftE X.K EC W fun _ => SW.no) := ⟨fun pins s σ H Q I h => by
  obtain ⟨F, R, ρ, l, μ, m, s, P⟩ := h
  exact P.elim⟩
/-- the value goes to the target -/
theorem asg_ok {F R H : Hp} {ρ : List Addr} {μ : Mem} {l : SW.Loc} {σ : L2.St} {D : Ends} {Wx : Nat → Hp → Prop} {p : Pat} {v : Val} {x : V} (m : MR F X.K R ρ μ H) (s : SR X.K R ρ l σ) (r : VR X.K R ρ v x) (P : Post F X.K (relFl X.K) Wx R ρ (SW.lift2 (SW.asgV p v l) μ) (DQ D)) : gPat X.K p x σ H D.nx := by
  cases e1 : SW.asgV p v l with
  | none => rw [e1] at P; exact P.elim
  | some l' =>
    rw [e1] at P
    have key : ∀ q, v = .v q → SW.asgP p q l = some l' → gPat X.K p x σ H D.nx := by
      rintro q rfl e
      exact pat_ok (vs := []) m.sub p q x l l' σ D.nx e s r fun σ' s' _ => Post.nx P m s'
    cases p with
    | v i =>
      simp only [SW.asgV, Option.some.injEq] at e1
      subst e1
      exact Post.nx P m (s.set i r)
    | t ps =>
      cases v with
      | o n => simp [SW.asgV] at e1
      | v q => exact key q rfl e1
theorem es_asg {p : Pat} {tg : Expr} (he : PE X e (liftE X.K EC W ge)) (hg : PG X tg (gPat X.K p)) (hs : swapsWithSole [tg] e pos.line X.env = pure false) (hw : swappedStores [tg] e X.env = pure none) (h1 : (assignEach [tg] X.env).map (·.2) = [assign tg X.env]) :
    PS X (.Assign [tg] e pos) (liftS X.K EC W fun l => do let v ← ge l; SW.lift2 (SW.asgV p v l)) := by
  refine PS.imp (ps_asg he hg hs hw h1) fun D σ H h => ?_
  exact lift_bind h fun F R ρ l μ H1 v x m s r P => asg_ok m s r P
/-- name op= e, whole numbers -/
def ipR : SW.Op2 → TIp
  | .add => ipI fun i j => i + j
  | .sub => ipI fun i j => i - j
  | _ => fun _ _ _ _ => False
def augOk : SW.Op2 → Bool
  | .add => true | .sub => true | _ => false
theorem ip_ok : ∀ o : SW.Op2, augOk o = true → PIp X (binAst o) (ipR o)
  | .add, _ => ip_add
  | .sub, _ => ip_sub
theorem es_aug {o : SW.Op2} (ho : augOk o = true) {i : Nat} {x : Str} {pos' : Pos} (hN : X.N.Nodup) (hi : X.N[i]? = some x) (hx : Loc X.env.scope x) (hf : X.fn x = true ∨ X.env.scope.names.lookup x = some .local) (he : PE X e (liftE X.K EC W ge)) :
    PS X (.AugAssign (.Name x pos') (binAst o) e pos) (liftS X.K EC W fun l => do let x ← gVar i l; let y ← ge l; SW.augV o i l x y) := by
  refine PS.imp (ps_aug hN hi hx he (ip_ok o ho) hf) fun D σ H h => ?_
  obtain ⟨F, R, ρ, l, μ, m, s, P⟩ := h
  have P : Post F X.K (relFl X.K) (wx EC W σ) R ρ ((gVar i l μ).bind fun x ν => (ge l >>= fun y => SW.augV o i l x y) ν) (DQ D) := P
  unfold gVar at P
  cases e1 : l[i]? with
  | none => rw [e1] at P; exact P.elim
  | some u =>
    cases u with
    | none => rw [e1] at P; exact P.elim
    | some v =>
      rw [e1] at P
      obtain ⟨x, e2, rx⟩ := s.get i v e1
      refine ⟨x, e2, ?_⟩
      refine lift_next (Wx := fun _ _ => True) (f := fun y => SW.augV o i l v y) m s P fun R1 ρ1 μ1 H1 w y s1 p1 m1 sr1 r1 P1 => ?_
      have rx := rx.mono s1 p1
      cases o <;> try (cases ho; done)
      · cases v with
        | o n => exact P1.elim
        | v q =>
          cases w with
          | o n => cases q <;> exact P1.elim
          | v q' =>
            cases q <;> try (exact P1.elim)
            cases q' <;> try (exact P1.elim)
            rename_i a _ b
            have hx := Rep.int_inv rx
            have hy := Rep.int_inv r1
            subst hx hy
            exact ⟨a, b, rfl, rfl, Post.nx P1 m1 (sr1.set i (v := .v (.int (a + b))) (.int _))⟩
      · cases v with
        | o n => exact P1.elim
        | v q =>
          cases w with
          | o n => cases q <;> exact P1.elim
          | v q' =>
            cases q <;> try (exact P1.elim)
            cases q' <;> try (exact P1.elim)
            rename_i a _ b
            have hx := Rep.int_inv rx
            have hy := Rep.int_inv r1
            subst hx hy
            exact ⟨a, b, rfl, rfl, Post.nx P1 m1 (sr1.set i (v := .v (.int (a - b))) (.int _))⟩
/-- names told together, stored from the right -/
theorem es_par2 {i j : Nat} {x y : Str} {a b : Expr} {gs : LF (List Val)} {px py pt : Pos} {kt k2 pt2} (hc : X.calm = true) (hN : X.N.Nodup) (hi : X.N[i]? = some x) (hj : X.N[j]? = some y) (hij : i ≠ j)
    (hx : X.env.scope.names.lookup x = some .local) (hy : X.env.scope.names.lookup y = some .local) (ha : PA X [a, b] (liftA X.K EC W gs))
    (hw : swappedStores [.Tuple [.Name x px, .Name y py] kt pt] (.Tuple [a, b] k2 pt2) X.env = pure (some [x, y]))
    (hs : swapsWithSole [.Tuple [.Name x px, .Name y py] kt pt] (.Tuple [a, b] k2 pt2) pos.line X.env = pure false) :
    PS X (.Assign [.Tuple [.Name x px, .Name y py] kt pt] (.Tuple [a, b] k2 pt2) pos) (liftS X.K EC W fun l => do let vs ← gs l; SW.lift2 (SW.setAll [i, j] vs l)) := by
  refine PS.imp (ps_par hc hN hi hj hij hx hy ha hw hs) fun D σ H h => ?_
  refine lift_bind h fun F R ρ l μ H1 vs xs m s r P => ?_
  cases vs with
  | nil => exact P.elim
  | cons v vs =>
    obtain ⟨x1, ys, rfl, r1, r2⟩ := vrs_cons r
    cases vs with
    | nil => exact P.elim
    | cons w vs =>
      obtain ⟨x2, zs, rfl, r3, r4⟩ := vrs_cons r2
      cases vs with
      | nil =>
        have := vrs_nil r4
        subst this
        exact ⟨x1, x2, rfl, Post.nx P m ((s.set i r1).set j r3)⟩
      | cons u vs => exact P.elim
theorem es_par3 {i j k : Nat} {x y z : Str} {a b c : Expr} {gs : LF (List Val)} {px py pz pt : Pos} {kt k2 pt2} (hc : X.calm = true) (hN : X.N.Nodup) (hi : X.N[i]? = some x) (hj : X.N[j]? = some y) (hk : X.N[k]? = some z) (hij : i ≠ j) (hik : i ≠ k) (hjk : j ≠ k)
    (hx : X.env.scope.names.lookup x = some .local) (hy : X.env.scope.names.lookup y = some .local) (hz : X.env.scope.names.lookup z = some .local) (ha : PA X [a, b, c] (liftA X.K EC W gs))
    (hw : swappedStores [.Tuple [.Name x px, .Name y py, .Name z pz] kt pt] (.Tuple [a, b, c] k2 pt2) X.env = pure (some [x, y, z]))
    (hs : swapsWithSole [.Tuple [.Name x px, .Name y py, .Name z pz] kt pt] (.Tuple [a, b, c] k2 pt2) pos.line X.env = pure false) :
    PS X (.Assign [.Tuple [.Name x px, .Name y py, .Name z pz] kt pt] (.Tuple [a, b, c] k2 pt2) pos) (liftS X.K EC W fun l => do let vs ← gs l; SW.lift2 (SW.setAll [i, j, k] vs l)) := by
  refine PS.imp (ps_par3 hc hN hi hj hk hij hik hjk hx hy hz ha hw hs) fun D σ H h => ?_
  refine lift_bind h fun F R ρ l μ H1 vs xs m s r P => ?_
  cases vs with
  | nil => exact P.elim
  | cons v vs =>
    obtain ⟨x1, ys, rfl, r1, r2⟩ := vrs_cons r
    cases vs with
    | nil => exact P.elim
    | cons w vs =>
      obtain ⟨x2, zs, rfl, r3, r4⟩ := vrs_cons r2
      cases vs with
      | nil => exact P.elim
      | cons u vs =>
        obtain ⟨x3, zs, rfl, r5, r6⟩ := vrs_cons r4
        cases vs with
        | nil =>
          have := vrs_nil r6
          subst this
          exact ⟨x1, x2, x3, rfl, Post.nx P m (((s.set i r1).set j r3).set k r5)⟩
        | cons t vs => exact P.elim
/-! ### for -/
def stepF (p : Pat) (gb : LF (SW.Loc × Fl)) : PV → LF (SW.Loc × Fl) := fun x l => match SW.asgP p x l with
  | some l' => gb l'
  | none => SW.no
theorem forL_step {f : PV → SW.Loc → M (SW.Loc × Fl)} {x : PV} {xs : List PV} {l : SW.Loc} {μ : Mem} {γ : Type} {k : SW.Loc × Fl → Mem → Res γ} :
    (SW.forL f (x :: xs) l μ).bind k = (f x l μ).bind fun r ν => match r.2 with
      | .nx => (SW.forL f xs r.1 ν).bind k
      | .ret v => k (r.1, .ret v) ν := by
  have e : SW.forL f (x :: xs) l μ = (f x l μ).bind fun r ν => (match r.2 with | .nx => SW.forL f xs r.1 | .ret v => pure (r.1, .ret v) : M (SW.Loc × Fl)) ν := rfl
  rw [e, rbind_assoc]
  congr 1
  funext r ν
  obtain ⟨l1, fl⟩ := r
  cases fl <;> rfl
theorem es_for (hW : WOk W) (hpo : PassesOwn (model X.prog X.w) X.A X.env X.xe) (hc : X.calm = true) {tg iter : Expr} {body : List Stmt} {p : Pat} {gi : LF (List PV × Srcs)} {gb : LF (SW.Loc × Fl)} (hi : PI X tg iter (liftI X.K EC W gi)) (hg : PG X tg (gPat X.K p)) (hb : PSs X body (liftS X.K EC W gb))
    (hp : ∀ l, Pres (gb l)) (ht : ∀ l μ r μ', gi l μ = .ok r μ' → There r.2 μ') (hs : ∀ x, foldedSetIterable iter X.env x = pure x) :
    PS X (.For tg iter body [] pos) (liftS X.K EC W fun l => do
      let r ← gi l
      let ls ← SW.lockM r.2
      let z ← SW.forL (stepF p gb) r.1 l
      SW.unlockM ls
      pure z) := by
  refine PS.imp (ps_for hpo hc hi hg hb hs) fun D σ H h => ?_
  refine lift_bindE h fun F R ρ l μ0 μ1 H1 r J e0 m1 sr rI P => ?_
  obtain ⟨xs, src⟩ := r
  have hthere := ht _ _ _ _ e0
  dsimp only at P hthere
  have P : Post F X.K (relFl X.K) (wx EC W σ) R ρ ((SW.lockM src μ1).bind fun ls μ2 => (SW.forL (stepF p gb) xs l μ2).bind fun z μ3 => (SW.unlockM ls μ3).bind fun _ μ4 => .ok z μ4) (DQ D) := P
  cases el : SW.lockM src μ1 with
  | no => rw [el] at P; exact P.elim
  | exn c ν => exact absurd el (lockM_exn src μ1 c ν)
  | ok ls μ2 =>
    rw [el, SW.rbind_ok] at P
    obtain ⟨m2, hd2⟩ := lock_MR m1 hthere el
    let Wd : Nat → L2.St → Hp → Prop := fun i σ' H => ∃ Ri ρi μi li, Sub R Ri ∧ ρ <+: ρi ∧ MR F X.K Ri ρi μi H ∧ SR X.K Ri ρi li σ' ∧ Keeps μ2 μi ∧
      Post F X.K (relFl X.K) (wx EC W σ) Ri ρi ((SW.forL (stepF p gb) (xs.drop i) li μi).bind fun z ν => (SW.unlockM ls ν).bind fun _ τ => .ok z τ) (DQ D)
    refine ⟨fun i m σ' H => m = xs.length - i ∧ i ≤ xs.length ∧ Wd i σ' H, ⟨xs.length, by simp, Nat.zero_le _, R, ρ, μ2, l, Sub.refl R, List.prefix_refl ρ, m2, sr, Keeps.refl _, P⟩, ?_⟩
    rintro i m σ' H2 ⟨rfl, hi', Ri, ρi, μi, li, si, pi, mi, sri, ki, Pi⟩
    have Wi := rI F Ri ρi μi H2 si pi mi (hd2.keep ki)
    dsimp only at Wi
    obtain ⟨go, stop, yld⟩ := Wi
    by_cases hlt : i < xs.length
    · refine .inr ⟨go i hlt, Wd (i + 1), fun σ'' H' w => ⟨xs.length - (i + 1), by omega, rfl, hlt, w⟩, fun x H' hy => ?_⟩
      obtain ⟨R3, s3, m3, rx⟩ := yld i x H' hlt hy _ (List.getElem?_eq_getElem hlt)
      rw [List.drop_eq_getElem_cons hlt, forL_step] at Pi
      cases ea : SW.asgP p xs[i] li with
      | none =>
        have : stepF p gb xs[i] li μi = .no := by unfold stepF; rw [ea]; rfl
        rw [this] at Pi
        exact Pi.elim
      | some l' =>
        refine pat_ok (vs := []) m3.sub p xs[i] x li l' σ' _ ea (sri.mono s3 (List.prefix_refl ρi)) rx fun σ2 sr2 _ => ?_
        have P3 := Pi.mono s3 (List.prefix_refl ρi)
        have hst : stepF p gb xs[i] li μi = gb l' μi := by unfold stepF; rw [ea]
        rw [hst] at P3
        refine ⟨F, R3, ρi, l', μi, m3, sr2, ?_⟩
        rw [wx_eq hW σ2 σ]
        refine Post.imp (Post.bind (rel := relFl X.K) P3) ?_
        rintro y H4 ⟨R4, ρ4, z, μ4, s4, p4, m4, r4, e4, P4⟩
        obtain ⟨l4, fl⟩ := z
        cases fl with
        | nx =>
          cases y with
          | inr x => exact r4.elim
          | inl σ4 => exact ⟨R4, ρ4, μ4, l4, (si.trans s3).trans s4, pi.trans p4, m4, r4, ki.trans (hp l' μi _ μ4 e4), P4⟩
        | ret v =>
          cases y with
          | inl σ4 => exact r4.elim
          | inr x =>
            have P4 : Post F X.K (relFl X.K) (wx EC W σ) R4 ρ4 ((SW.unlockM ls μ4).bind fun _ τ => .ok (l4, .ret v) τ) (DQ D) := P4
            cases eu : SW.unlockM ls μ4 with
            | no => rw [eu] at P4; exact P4.elim
            | exn c ν => exact absurd eu (unlockM_exn ls μ4 c ν)
            | ok u τ =>
              rw [eu] at P4
              exact (Post.rt (D := D) P4 (unlock_MR m4 eu) r4 : D.rt x H4)
    · have hil : i = xs.length := by omega
      subst hil
      refine .inl ⟨stop, ?_⟩
      rw [List.drop_length] at Pi
      have Pi : Post F X.K (relFl X.K) (wx EC W σ) Ri ρi ((SW.unlockM ls μi).bind fun _ τ => .ok (li, .nx) τ) (DQ D) := Pi
      cases eu : SW.unlockM ls μi with
      | no => rw [eu] at Pi; exact Pi.elim
      | exn c ν => exact absurd eu (unlockM_exn ls μi c ν)
      | ok u τ =>
        rw [eu] at Pi
        exact Post.nx Pi (unlock_MR mi eu) sri
/-! ### while -/
theorem es_while (hW : WOk W) (hpo : PassesOwn (model X.prog X.w) X.A X.env X.xe) {c : Expr} {body : List Stmt} {gc : LF Bool} {gb : LF (SW.Loc × Fl)} (hc : PT X c (liftT X.K EC W gc)) (hb : PSs X body (liftS X.K EC W gb)) (n : Nat) :
    PS X (.While c body [] pos) (liftS X.K EC W fun l => SW.whileL gc gb n l) := by
  refine PS.imp (ps_while hpo hc hb) fun D σ H h => ?_
  obtain ⟨F, R, ρ, l, μ, m, sr, P⟩ := h
  refine ⟨fun k σ' H => ∃ Ri ρi μi li, Sub R Ri ∧ ρ <+: ρi ∧ MR F X.K Ri ρi μi H ∧ SR X.K Ri ρi li σ' ∧ Post F X.K (relFl X.K) (wx EC W σ) Ri ρi (SW.whileL gc gb k li μi) (DQ D), ⟨n, R, ρ, μ, l, Sub.refl R, List.prefix_refl ρ, m, sr, P⟩, ?_⟩
  rintro k σ' H2 ⟨Ri, ρi, μi, li, si, pi, mi, sri, Pi⟩
  cases k with
  | zero => exact Pi.elim
  | succ k =>
    refine ⟨F, Ri, ρi, li, μi, mi, sri, ?_⟩
    rw [wx_eq hW σ' σ]
    have Pi : Post F X.K (relFl X.K) (wx EC W σ) Ri ρi ((gc li μi).bind fun b ν => (if b then (do
      let r ← gb li
      match r.2 with
        | .nx => SW.whileL gc gb k r.1
        | .ret v => pure (r.1, .ret v))
      else pure (li, .nx) : M (SW.Loc × Fl)) ν) (DQ D) := Pi
    refine Post.imp (Post.bind (rel := relB) Pi) ?_
    rintro b' H3 ⟨R3, ρ3, b, μ3, s3, p3, m3, r3, _, P3⟩
    have r3 : b = b' := r3
    subst r3
    cases b with
    | false =>
      rw [if_neg Bool.false_ne_true] at P3 ⊢
      exact Post.nx P3 m3 (sri.mono s3 p3)
    | true =>
      rw [if_pos rfl] at P3 ⊢
      refine ⟨fun σ'' H' => ∃ Ri ρi μi li, Sub R Ri ∧ ρ <+: ρi ∧ MR F X.K Ri ρi μi H' ∧ SR X.K Ri ρi li σ'' ∧ Post F X.K (relFl X.K) (wx EC W σ) Ri ρi (SW.whileL gc gb k li μi) (DQ D), fun σ'' H' w => ⟨k, Nat.lt_succ_self k, w⟩, F, R3, ρ3, li, μ3, m3, sri.mono s3 p3, ?_⟩
      rw [wx_eq hW σ' σ]
      refine Post.imp (Post.bind (rel := relFl X.K) P3) ?_
      rintro y H4 ⟨R4, ρ4, z, μ4, s4, p4, m4, r4, _, P4⟩
      obtain ⟨l4, fl⟩ := z
      cases fl with
      | nx =>
        cases y with
        | inr x => exact r4.elim
        | inl σ4 => exact ⟨R4, ρ4, μ4, l4, (si.trans s3).trans s4, (pi.trans p3).trans p4, m4, r4, P4⟩
      | ret v =>
        cases y with
        | inl σ4 => exact r4.elim
        | inr x => exact (Post.rt (D := D) P4 m4 r4 : D.rt x H4)
end
end SWS
end
section
set_option maxRecDepth 100000
/-! Stores into lists and dicts. -/
namespace SWS
open PySem PySem.Spec PyProof.Rows L2
open SW (PV Val MO Ky Mem Res M E OF Cn Pat Fl view flat flats ofO bin2 Srcs Keeps Pres)
section
variable {X : Cx}
def rSetD : TSet := fun o i v H Q => ∃ a H', o = .ref a ∧ DPut H a i v H' ∧ Q H'
theorem set_dict (hu : X.A.units + 1 < cLine) : PSet X rSetD := by
  intro pins s σ H o i v ov iv u Q I ro ri rv h
  obtain ⟨a, H', rfl, g, q⟩ := h
  obtain rfl : ov = Value.ref a := ro
  exact d_setItem hu I g ri rv fun s' I' => ⟨H', I', q⟩
theorem PSet.or {t u : TSet} (h : PSet X t) (h' : PSet X u) : PSet X fun o i v H Q => t o i v H Q ∨ u o i v H Q := by
  intro pins s σ H o i v ov iv w Q I ro ri rv q
  rcases q with q | q
  · exact h pins s σ H o i v ov iv w Q I ro ri rv q
  · exact h' pins s σ H o i v ov iv w Q I ro ri rv q
end
section
variable {K : Fg} {F R H : Hp} {ρ : List Addr} {μ : Mem}
theorem putI_ok {x : Val} {q p : PV} {o y v : V} {μ' : Mem} {u : Unit} (m : MR F K R ρ μ H) (rx : VR K R ρ x o) (rq : Rep K R q y) (rp : Rep K R p v) (e : SW.putI x q p μ = .ok u μ') (Q : Hp → Prop) (h : ∀ H', MR F K R ρ μ' H' → Q H') :
    rSetL o y v H Q ∨ rSetD o y v H Q := by
  cases x with
  | v p => cases e
  | o n =>
    obtain ⟨a, ea, rfl⟩ := rx
    unfold SW.putI at e
    dsimp only at e
    cases h1 : μ[n]? with
    | none => rw [h1] at e; cases e
    | some u =>
      rw [h1] at e
      have ho := m.obj n u a h1 ea
      cases u with
      | lst xs =>
        cases q with
        | int i =>
          have hy := rq.int_inv
          subst hy
          dsimp only at e
          split at e
          · rename_i hi
            simp only [Bool.and_eq_true, decide_eq_true_eq] at hi
            cases e
            obtain ⟨vs, h2, h3⟩ := ho
            have hl := h3.length
            refine .inl ⟨a, vs, i, i.toNat, rfl, rfl, h2, ?_, h _ (m.put ea (by rw [h2]; intro ob v z; cases z) ⟨_, upd_same, h3.set rp _⟩)⟩
            unfold ixN
            rw [if_pos hi.1, if_pos (by omega)]
          · cases e
        | _ => cases e
      | dk kvs =>
        dsimp only at e
        cases ek : SW.keyOf q with
        | none => rw [ek] at e; cases e
        | some k =>
          rw [ek] at e
          dsimp only at e
          split at e
          · rename_i hz
            cases e
            have hz := okN_le hz
            obtain ⟨ks, h2, h3⟩ := ho
            have hy := keyOf_rep ek rq
            subst hy
            have hl := h3.len
            exact .inr ⟨a, _, rfl, DPut.k h2 (by omega), h _ (m.put ea (by rw [h2]; intro ob v z; cases z) ⟨_, upd_same, h3.put (fun _ _ => skey_inj) k rp⟩)⟩
          · cases e
      | _ => cases e
theorem keysOf_rep : ∀ {ps : List PV} {ks : List Ky} {xs : List V}, SW.keysOf ps = some ks → Reps K R ps xs → xs = (skeys ks).map kV
  | [], ks, xs, e, r => by simp [SW.keysOf] at e; subst e; cases r; rfl
  | p :: ps, ks, xs, e, r => by
    obtain ⟨y, ys, rfl, r1, r2⟩ := r.cons_inv
    unfold SW.keysOf at e
    cases e1 : SW.keyOf p with
    | none => rw [e1] at e; cases e
    | some k =>
      cases e2 : SW.keysOf ps with
      | none => rw [e1, e2] at e; cases e
      | some js =>
        rw [e1, e2] at e
        cases e
        rw [keyOf_rep e1 r1, keysOf_rep e2 r2]
        rfl
end
theorem putI_exn {x : Val} {q p : PV} {μ : Mem} {c : Nat} {ν : Mem} : SW.putI x q p μ ≠ .exn c ν := by
  intro e
  cases x with
  | v p => cases e
  | o n =>
    unfold SW.putI at e
    dsimp only at e
    split at e
    · split at e
      · split at e <;> cases e
      · cases e
    · split at e
      · split at e <;> cases e
      · cases e
    · cases e
section
variable {X : Cx} {EC : Nat → Value} {W : WX} {e o i : Expr} {ge go gi : LF Val} {pos tpos : Pos}
theorem es_setItem (hu : X.A.units + 100 < cLine) (he : PE X e (liftE X.K EC W ge)) (ho : PE X o (liftE X.K EC W go)) (hi : PE X i (liftE X.K EC W gi))
    (ha : ∀ v, assign (.Subscript o i tpos) X.env v = (do
      let ov ← holding [v] (eval o X.env)
      let iv ← holding [v, ov] (eval i X.env)
      standAt tpos
      holding [v, ov, iv] (setItem ov iv v)
      release [v, ov, iv] []))
    (hs : swapsWithSole [.Subscript o i tpos] e pos.line X.env = pure false) (hw : swappedStores [.Subscript o i tpos] e X.env = pure none) :
    PS X (.Assign [.Subscript o i tpos] e pos) (liftS X.K EC W fun l => do
      let v ← ge l
      let x ← go l
      let y ← gi l
      let p ← flat v
      let q ← flat y
      SW.putI x q p
      pure (l, .nx)) := by
  refine PS.imp (ps_asg he (pg_sub ho hi (PSet.or set_list (set_dict (by omega))) ha) hs hw) fun D σ H h => ?_
  refine lift_bind h fun F R ρ l μ H1 v x m s r P => ?_
  refine lift_next (Wx := fun _ _ => True) m s P fun R1 ρ1 μ1 H2 w y s1 p1 m1 sr1 r1 P1 => ?_
  refine lift_next (Wx := fun _ _ => True) m1 sr1 P1 fun R2 ρ2 μ2 H3 u z s2 p2 m2 sr2 r2 P2 => ?_
  obtain ⟨p, rfl, rp, P3⟩ := flat_cases (r.mono (s1.trans s2) (p1.trans p2)) P2
  obtain ⟨q, rfl, rq, P4⟩ := flat_cases r2 P3
  have P4 : Post F X.K (relFl X.K) (wx EC W σ) R2 ρ2 ((SW.putI w q p μ2).bind fun _ ν => .ok (l, .nx) ν) (DQ D) := P4
  cases e1 : SW.putI w q p μ2 with
  | no => rw [e1] at P4; exact P4.elim
  | exn c ν => exact absurd e1 putI_exn
  | ok t ν =>
    rw [e1] at P4
    exact putI_ok m2 (r1.mono s2 p2) rq rp e1 _ fun H' m' => Post.nx P4 m' sr2
theorem es_setTup (hu : X.A.units + 100 < cLine) {is : List Expr} {gs : LF (List Val)} {k : Nat} {tp : Pos} (he : PE X e (liftE X.K EC W ge)) (ho : PE X o (liftE X.K EC W go)) (hi : PA X is (liftA X.K EC W gs)) (hn : ∀ l μ vs ν, gs l μ = .ok vs ν → vs.length ≤ 16777216)
    (ha : ∀ v, assign (.Subscript o (.Tuple is k tp) tpos) X.env v = (do
      let ov ← holding [v] (eval o X.env)
      let iv ← holding [v, ov] (eval (.Tuple is k tp) X.env)
      standAt tpos
      holding [v, ov, iv] (setItem ov iv v)
      release [v, ov, iv] []))
    (hs : swapsWithSole [.Subscript o (.Tuple is k tp) tpos] e pos.line X.env = pure false) (hw : swappedStores [.Subscript o (.Tuple is k tp) tpos] e X.env = pure none) :
    PS X (.Assign [.Subscript o (.Tuple is k tp) tpos] e pos) (liftS X.K EC W fun l => do
      let v ← ge l
      let x ← go l
      let ys ← gs l
      let p ← flat v
      let qs ← flats ys
      SW.putT x qs p
      pure (l, .nx)) := by
  refine PS.imp (ps_asg he (pg_sub ho (pe_tup hi) (set_dict (by omega)) ha) hs hw) fun D σ H h => ?_
  refine lift_bind h fun F R ρ l μ H1 v x m s r P => ?_
  refine lift_next (Wx := fun _ _ => True) m s P fun R1 ρ1 μ1 H2 w y s1 p1 m1 sr1 r1 P1 => ?_
  refine ⟨F, R1, ρ1, l, μ1, m1, sr1, Post.imp (Post.bind (rel := VRs X.K) P1) ?_⟩
  rintro xs H3 ⟨R2, ρ2, vs, μ2, s2, p2, m2, r2, e2, P2⟩
  refine ⟨by rw [← r2.length, sizeLine_eq]; exact hn _ _ _ _ e2, fun T hT => ?_⟩
  obtain ⟨p, rfl, rp, P3⟩ := flat_cases (r.mono (s1.trans s2) (p1.trans p2)) P2
  obtain ⟨qs, rqs, P4⟩ := flats_cases r2 P3
  have P4 : Post F X.K (relFl X.K) (wx EC W σ) R2 ρ2 ((SW.putT w qs p μ2).bind fun _ ν => .ok (l, .nx) ν) (DQ D) := P4
  cases w with
  | v p => exact P4.elim
  | o n =>
    obtain ⟨a, ea, rfl⟩ := r1.mono s2 p2
    unfold SW.putT at P4
    dsimp only at P4
    cases h1 : μ2[n]? with
    | none => rw [h1] at P4; exact P4.elim
    | some u =>
      rw [h1] at P4
      cases u with
      | dt kvs =>
        dsimp only at P4
        cases ek : SW.keysOf qs with
        | none => rw [ek] at P4; exact P4.elim
        | some ks =>
          rw [ek] at P4
          dsimp only at P4
          split at P4
          · rename_i hz
            have hz := okN_le hz
            obtain ⟨ts, h2, h3⟩ := m2.obj n _ a h1 ea
            have hx := keysOf_rep ek rqs
            subst hx
            have hl := h3.len
            have m3 : MR F X.K R2 ρ2 μ2 (upd H3 T (.tup ((skeys ks).map kV))) := m2.heap (Sub.new hT)
            have hTa : a ≠ T := ne_of_none h2 hT
            have h2' : (upd H3 T (.tup ((skeys ks).map kV))) a = some (.dT ts) := by rw [upd_ne hTa]; exact h2
            refine ⟨a, _, rfl, DPut.t h2' upd_same (by omega), ?_⟩
            have m4 := m3.put ea (by rw [h2']; intro ob v z; cases z) (u := .dT (putK ts (skeys ks) x)) (o := .dt (SW.dput kvs ks p)) ⟨_, upd_same, h3.put (fun _ _ => skeys_inj) ks rp⟩
            exact Post.nx P4 m4 ((sr1.mono s2 p2))
          · exact P4.elim
      | _ => exact P4.elim
end
end SWS
end
section
set_option maxRecDepth 100000
/-! Calls, defs, levels. -/
namespace SWS
open PySem PySem.Spec PyProof.Rows L2
open SW (PV Val MO Ky Mem Res M E OF Cn Pat Fl view flat flats ofO bin2 Srcs Keeps Pres Mode FD)
/-! ### a call's end -/
section
variable {K : Fg} {F R H : Hp} {ρ : List Addr} {μ : Mem}
theorem MR.take (m : MR F K R ρ μ H) (c : Nat) : MR F K R (ρ.take c) (μ.take c) H := by
  refine ⟨m.fr, fun a o e => ⟨(m.frR a o e).1, fun h => (m.frR a o e).2 (List.mem_of_mem_take h)⟩, m.sub, by rw [List.length_take, List.length_take, m.len], m.nd.sublist (List.take_sublist _ _), fun a ha => m.out a (List.mem_of_mem_take ha), fun n o a e e' => ?_⟩
  rw [List.getElem?_take] at e e'
  split at e
  · rename_i h
    rw [if_pos h] at e'
    exact m.obj n o a e e'
  · cases e
theorem pre_take {ρ ρ' : List Addr} (p : ρ <+: ρ') : ρ'.take ρ.length = ρ := by
  obtain ⟨t, rfl⟩ := p
  simp
theorem fin_ok {m : Mode} {c : Nat} {v : Val} {x : V} {ρ' : List Addr} {R' : Hp} {Q : VK} {Wx : Nat → Hp → Prop} (hc : m ≠ .raw → c = ρ.length) (s : Sub R R') (p : ρ <+: ρ') (mr : MR F K R' ρ' μ H) (r : VR K R' ρ' v x) (P : Post F K (VR K) Wx R ρ (SW.fin m c v μ) Q) : Q x H := by
  have mt := mr.take c
  cases m with
  | raw =>
    cases v with
    | v q => exact P R' ρ' H x s p mr r
    | o n => exact P R' ρ' H x s p mr r
  | val =>
    have hc := hc (by intro z; cases z)
    subst hc
    have ep := pre_take p
    cases v with
    | v q => exact P R' (ρ'.take ρ.length) H x s (by rw [ep]; exact List.prefix_refl ρ) mt r
    | o n =>
      obtain ⟨a, ea, rfl⟩ := r
      unfold SW.fin at P
      dsimp only at P
      split at P
      · rename_i hn
        exact P R' (ρ'.take ρ.length) H (.ref a) s (by rw [ep]; exact List.prefix_refl ρ) mt ⟨a, by rw [List.getElem?_take_of_lt hn]; exact ea, rfl⟩
      · rename_i hn
        split at P
        · rename_i xs ho
          obtain ⟨vs, h1, h2⟩ := mr.obj n _ a ho ea
          have hR : R' a = none := mr.notR ea
          have ha : a ∉ ρ'.take ρ.length := fun hm => by
            obtain ⟨i, hi⟩ := List.mem_iff_getElem?.mp hm
            rw [List.getElem?_take] at hi
            split at hi
            · rename_i hlt
              obtain ⟨z1, z2⟩ := List.getElem?_eq_some_iff.mp hi
              obtain ⟨z3, z4⟩ := List.getElem?_eq_some_iff.mp ea
              have := (List.getElem_inj mr.nd).mp (z2.trans z4.symm)
              omega
            · cases hi
          have hF : F a = none := by
            cases e : F a with
            | none => rfl
            | some u =>
              obtain ⟨ob, v, rfl⟩ := (mr.frR a u e).2 (List.mem_of_getElem? ea)
              have := mr.fr a _ e
              rw [h1] at this; cases this
          obtain ⟨m2, s2⟩ := mt.adoptR h1 hR ha hF
          exact P _ (ρ'.take ρ.length) H (.ref a) (s.trans s2) (by rw [ep]; exact List.prefix_refl ρ) m2 (.lst (.inl upd_same) (h2.mono s2))
        · exact P.elim
  | own =>
    have hc := hc (by intro z; cases z)
    subst hc
    have ep := pre_take p
    cases v with
    | v q => exact P.elim
    | o n =>
      obtain ⟨a, ea, rfl⟩ := r
      unfold SW.fin at P
      dsimp only at P
      split at P
      · exact P.elim
      · rename_i hn
        have hR : R' a = none := mr.notR ea
        have ha : a ∉ ρ'.take ρ.length := fun hm => by
          obtain ⟨i, hi⟩ := List.mem_iff_getElem?.mp hm
          rw [List.getElem?_take] at hi
          split at hi
          · rename_i hlt
            obtain ⟨z1, z2⟩ := List.getElem?_eq_some_iff.mp hi
            obtain ⟨z3, z4⟩ := List.getElem?_eq_some_iff.mp ea
            have := (List.getElem_inj mr.nd).mp (z2.trans z4.symm)
            omega
          · cases hi
        have key : ∀ o : MO, OR K R' H a o → (∀ ob v, H a ≠ some (.frz ob v)) → Post F K (VR K) Wx R ρ (.ok (.o ρ.length) (μ.take ρ.length ++ [o])) Q → Q (.ref a) H := fun o ho nf P =>
          have hF : F a = none := by
            cases e : F a with
            | none => rfl
            | some u =>
              obtain ⟨ob, v, rfl⟩ := (mr.frR a u e).2 (List.mem_of_getElem? ea)
              exact absurd (mr.fr a _ e) (nf ob v)
          P R' (ρ'.take ρ.length ++ [a]) H (.ref a) s (by rw [ep]; exact List.prefix_append ρ [a]) (mt.adoptO ho hR ha hF) ⟨a, by rw [ep]; simp, rfl⟩
        split at P
        · rename_i xs ho; exact key _ (mr.obj n _ a ho ea) (by obtain ⟨_, e, _⟩ := mr.obj n _ a ho ea; rw [e]; intro ob v z; cases z) P
        · rename_i xs ho; exact key _ (mr.obj n _ a ho ea) (by obtain ⟨_, e, _⟩ := mr.obj n _ a ho ea; rw [e]; intro ob v z; cases z) P
        · rename_i xs ho; exact key _ (mr.obj n _ a ho ea) (by obtain ⟨_, e, _⟩ := mr.obj n _ a ho ea; rw [e]; intro ob v z; cases z) P
        · exact P.elim
end
/-! ### what a def promises -/
section
variable {Fn : Type} (T : Fn → FD Fn) (EC : Nat → Value) (K : Fg)
def spF (k : Nat) (f : Fn) : Sp := fun vs H Q E => ∃ (m : Mode) (b : Nat) (F R : Hp) (ρ : List Addr) (μ : Mem) (args : List Val), MR F K R ρ μ H ∧ VRs K R ρ args vs ∧
  Post F K (VR K) (fun c H' => E (EC c) none H') R ρ (SW.callN T k m b f args μ) Q
end
/-- a def of the table stands in the module and keeps its promise -/
structure FnAt (P : Program) (w : World) (K : Fg) (mg : Str → Option Value) (base : Heap) (EC : Nat → Value) {Fn : Type} (T : Fn → FD Fn) (nm : Fn → Str) (k : Nat) (f : Fn) : Prop where
  at_ : ∃ (a : Addr) (fd : FuncData) (ps : List Str), mg (nm f) = some (.ref a) ∧ PySem.W.keepIn K (.ref a) = true ∧ Binds K fd ps [] ∧ FnOk P w K mg base (CX P w) k a fd ps (spF T EC K k f)
section
variable {X : Cx} {Fn : Type} {T : Fn → FD Fn} {nm : Fn → Str} {EC : Nat → Value} {W : WX} {k : Nat} {f : Fn} {pos p : Pos} {e : Expr} {es : List Expr} {gs : LF (List Val)}
theorem call_post {F R H : Hp} {ρ : List Addr} {μ : Mem} {σ : L2.St} {m : Mode} {b : Nat} {vs : List Val} {xs : List V} {Q : VK} (hW : WOk W) (mr : MR F X.K R ρ μ H) (r : VRs X.K R ρ vs xs) (P : Post F X.K (VR X.K) (wx EC W σ) R ρ (SW.callN T k m b f vs μ) Q) :
    spF T EC X.K k f (xs ++ []) H Q (fun c d H => W c d [] H) := by
  rw [List.append_nil]
  refine ⟨m, b, F, R, ρ, μ, vs, mr, r, ?_⟩
  rw [wx_eq hW σ []] at P
  exact P
theorem ev_call (hf : FnAt X.prog X.w X.K X.mg X.base EC T nm k f) (hr : Room k X.A) (hg : Gl X (nm f)) (hW : WOk W) (tk : Takes X W) (hdb : (nm f == ("__debug__" : Str)) = false) (m : Mode) (b : Nat) (ha : PA X (e :: es) (liftA X.K EC W gs))
    (he : starEach (e :: es) X.env = (false, eval e X.env) :: starEach es X.env) (hpl : (backTo pos (starEach es X.env)).any (·.1) = false) :
    PE X (.Call (.Name (nm f) p) (e :: es) [] pos) (liftE X.K EC W fun l => do let vs ← gs l; SW.callN T k m b f vs) := by
  obtain ⟨a, fd, ps, h1, h2, h3, h4⟩ := hf.at_
  refine PE.imp (pe_call (E := fun c d H => W c d [] H) h4 hr hg h1 h2 h3 .nil (passes_call tk fun c d σ H h => hW _ _ _ _ _ h) ha hdb he hpl) fun σ H Q h => ?_
  exact lift_bind h fun F R ρ l μ H1 vs xs mr s r P => call_post hW mr r P
theorem ev_call0 (hf : FnAt X.prog X.w X.K X.mg X.base EC T nm k f) (hr : Room k X.A) (hg : Gl X (nm f)) (hW : WOk W) (tk : Takes X W) (hdb : (nm f == ("__debug__" : Str)) = false) (m : Mode) (b : Nat) :
    PE X (.Call (.Name (nm f) p) [] [] pos) (liftE X.K EC W fun l => do let vs ← (pure [] : M (List Val)); SW.callN T k m b f vs) := by
  obtain ⟨a, fd, ps, h1, h2, h3, h4⟩ := hf.at_
  refine PE.imp (pe_call0 (E := fun c d H => W c d [] H) h4 hr hg h1 h2 h3 .nil (passes_call tk fun c d σ H h => hW _ _ _ _ _ h) hdb) fun σ H Q h => ?_
  obtain ⟨F, R, ρ, l, μ, mr, s, P⟩ := h
  exact call_post hW mr .nil P
end
/-! ### a def by its body -/
theorem sr_start {K : Fg} {R : Hp} {ρ : List Addr} {N : List Str} {args : List Val} {vs : List V} {np nl : Nat} (r : VRs K R ρ args vs) (h1 : args.length = np) (h2 : nl = N.length) (h3 : np ≤ nl) : SR K R ρ (args.map some ++ List.replicate (nl - np) none) (L2.start N vs) := by
  have hl := r.length
  refine ⟨?_, fun i v e => ?_⟩
  · unfold L2.start
    simp
    omega
  · have hi : i < args.length := by
      by_cases hi : i < args.length
      · exact hi
      · rw [List.getElem?_append_right (by simpa using hi), List.getElem?_replicate] at e
        split at e <;> cases e
    rw [List.getElem?_append_left (by simpa using hi), List.getElem?_map] at e
    unfold L2.start
    rw [List.getElem?_append_left (by simp; omega), List.getElem?_map]
    have key : ∀ {args : List Val} {vs : List V}, VRs K R ρ args vs → ∀ (i : Nat) (v : Val), args[i]? = some v → ∃ x, vs[i]? = some x ∧ VR K R ρ v x := by
      intro args vs r
      induction r with
      | nil => intro i v e; simp at e
      | cons h _ ih =>
        intro i v e
        cases i with
        | zero => simp at e; subst e; exact ⟨_, rfl, h⟩
        | succ i => simpa using ih i v (by simpa using e)
    cases ea : args[i]? with
    | none => rw [ea] at e; cases e
    | some w =>
      rw [ea] at e
      cases e
      obtain ⟨x, e1, e2⟩ := key r i v ea
      exact ⟨x, by rw [e1]; rfl, e2⟩
theorem fn_lift {P : Program} {w : World} {K : Fg} {mg : Str → Option Value} {base : Heap} {EC : Nat → Value} {Fn : Type} {T : Fn → FD Fn} {k : Nat} {f : Fn} {fa : Addr} {name qual : Str} {params : Arguments} {body : List Stmt} {scope : Scope} {dV kV doc pm cdv ct oc : Value} {an od : Option Addr}
    {osl : Array (Option Value)} {N ps : List Str} (lk : K.lookup fa = some ⟨oc, od, .func (PySem.W.fnOf name qual params body scope dV kV doc pm an cdv ct), osl⟩) (hcd : PySem.W.codeIn K cdv qual = true) (S : FnScope N ps scope) (hnp : (T f).np = ps.length) (hnl : (T f).nl = N.length)
    (hle : (T f).np ≤ (T f).nl)
    (hbody : ∀ (X : Cx) (W : WX) (b : Nat), X.prog = P → X.w = w → X.K = K → X.mg = mg → X.base = base → X.N = N → X.env.scope = scope → X.calm = true → Room k X.A → (∀ x, X.fn x = true) → Takes X W → WOk W → PassesOwn (model X.prog X.w) X.A X.env X.xe → X.stack = X.env :: X.outer → X.env.frame = some X.env.locals →
      PSs X body (liftS K EC W (SW.evB (SW.callN T k) b (T f).body))) :
    FnOk P w K mg base (CX P w) (k + 1) fa (PySem.W.fnOf name qual params body scope dV kV doc pm an cdv ct) ps (spF T EC K (k + 1) f) := by
  refine fn_of lk hcd S ?_ ?_
  · rintro vs H Q E ⟨m, b, F, R, ρ, μ, args, mr, r, P⟩
    have P : Post F K (VR K) _ R ρ (SW.runF T (SW.callN T k) m b f args μ) Q := P
    unfold SW.runF at P
    split at P
    · rename_i h
      rw [← r.length, h, hnp]
    · exact P.elim
  · rintro A outer s H vs Q E hr ⟨m, b, F, R, ρ, μ, args, mr, r, P⟩
    have P : Post F K (VR K) _ R ρ (SW.runF T (SW.callN T k) m b f args μ) Q := P
    unfold SW.runF at P
    split at P
    · rename_i hlen
      have hc : m ≠ .raw → SW.baseM m b μ = ρ.length := by
        intro hm
        cases m <;> first | exact mr.len.symm | exact absurd rfl hm
      generalize SW.baseM m b μ = c at P hc
      let W : WX := fun cls d _ H => E cls d H
      refine ⟨_, hbody (cxOf (CX _ _) _ _ K mg base N qual scope fa cdv A outer s H E) W c rfl rfl rfl rfl rfl rfl rfl rfl hr (fun _ => rfl) (takes_of rfl rfl rfl rfl) (fun _ _ _ _ _ h => h) (passes_of rfl) rfl rfl, ?_⟩
      refine ⟨F, R, ρ, _, μ, mr, sr_start r hlen hnl hle, ?_⟩
      cases e : SW.evB (SW.callN T k) c (T f).body (args.map some ++ List.replicate ((T f).nl - (T f).np) none) μ with
      | no => rw [e] at P; exact P.elim
      | exn ex μ' =>
        rw [e] at P
        intro R' ρ' H' s p m'
        cases m with
        | raw => exact P R' ρ' H' s p m'
        | val =>
          have hc := hc (by intro z; cases z)
          exact P R' (ρ'.take c) H' s (by rw [hc, pre_take p]; exact List.prefix_refl ρ) (m'.take c)
        | own =>
          have hc := hc (by intro z; cases z)
          exact P R' (ρ'.take c) H' s (by rw [hc, pre_take p]; exact List.prefix_refl ρ) (m'.take c)
      | ok z μ' =>
        obtain ⟨l', fl⟩ := z
        rw [e] at P
        intro R' ρ' H' y s p m' ry
        cases fl with
        | nx =>
          cases y with
          | inr x => exact ry.elim
          | inl σ' => exact fin_ok (v := .v .non) hc s p m' .non P
        | ret v =>
          cases y with
          | inl σ' => exact ry.elim
          | inr x => exact fin_ok hc s p m' ry P
    · exact P.elim
end SWS
end
section
set_option maxRecDepth 100000
/-! New things of the store; comprehensions put together. -/
namespace SWS
open PySem PySem.Spec PyProof.Rows L2
open SW (PV Val MO Ky Mem Res M E OF Cn Pat Fl view flat flats ofO bin2 Srcs Keeps Pres Mode FD newO)
section
variable {X : Cx} {EC : Nat → Value} {W : WX} {e : Expr} {es : List Expr} {gs : LF (List Val)} {ga gb : LF Val} {pos p : Pos}
/-- a new thing at a fresh place -/
theorem push_new {K : Fg} {F R H : Hp} {ρ : List Addr} {μ : Mem} {o : MO} {u : HO} {Q : VK} {Wx : Nat → Hp → Prop} (m : MR F K R ρ μ H) (h : ∀ p, OR K R (upd H p u) p o) (P : Post F K (VR K) Wx R ρ (newO o μ) Q) : ∀ p, H p = none → Q (.ref p) (upd H p u) := fun p hp =>
  P R (ρ ++ [p]) _ (.ref p) (Sub.refl R) (List.prefix_append ρ [p]) (m.push hp (h p)) ⟨p, by rw [← m.len]; simp, rfl⟩
theorem push_lst {K : Fg} {F R H : Hp} {ρ : List Addr} {μ : Mem} {ps : List PV} {vs : List V} {Q : VK} {Wx : Nat → Hp → Prop} (m : MR F K R ρ μ H) (r : Reps K R ps vs) (P : Post F K (VR K) Wx R ρ (newO (.lst ps) μ) Q) : ∀ p, H p = none → Q (.ref p) (upd H p (.lst vs)) :=
  push_new (o := .lst ps) m (fun p => ⟨vs, upd_same, r⟩) P
theorem ev_newlst (h : PA X es (liftA X.K EC W gs)) (hn : ∀ l μ vs ν, gs l μ = .ok vs ν → vs.length ≤ 16777216) :
    PE X (.List es pos) (liftE X.K EC W fun l => do let o ← (do let vs ← gs l; let ps ← flats vs; pure (.lst ps) : M MO); newO o) := by
  refine PE.imp (pe_lst h) fun σ H Q h => ?_
  have h := lift_congr (g' := fun l => gs l >>= fun vs => flats vs >>= fun ps => newO (.lst ps)) (fun l => by
    rw [m_assoc]; congr 1; funext vs; rw [m_assoc]; rfl) h
  refine lift_bindE h fun F R ρ l μ0 μ H1 vs xs e m s r P => ?_
  have hl := hn _ _ _ _ e
  obtain ⟨ps, rps, P⟩ := flats_cases r P
  exact ⟨by rw [← r.length, sizeLine_eq]; exact hl, push_lst m rps P⟩
theorem ev_dk : PE X (.Dict [] [] pos) (liftE X.K EC W fun _ => do let o ← (pure (.dk []) : M MO); newO o) := by
  refine PE.imp pe_dnewK fun σ H Q h => ?_
  obtain ⟨F, R, ρ, l, μ, m, s, P⟩ := h
  exact push_new (o := .dk []) m (fun p => ⟨[], upd_same, .nil⟩) P
theorem ev_dt : PE X (.Dict [] [] pos) (liftE X.K EC W fun _ => do let o ← (pure (.dt []) : M MO); newO o) := by
  refine PE.imp pe_dnewT fun σ H Q h => ?_
  obtain ⟨F, R, ρ, l, μ, m, s, P⟩ := h
  exact push_new (o := .dt []) m (fun p => ⟨[], upd_same, .nil⟩) P
/-- list * n, to change -/
def fRep (x y : Val) : M Val := do
  let o ← (do
    let p ← view x
    let q ← view y
    let r ← ofO (bin2 .mul p q)
    match r with
      | .lst xs => pure (.lst xs)
      | _ => SW.no : M MO)
  newO o
theorem opS_rep (K : Fg) : OpS K fRep rRepL := by
  intro F R ρ μ H v w x y Q Wx m rv rw' P
  have P : Post F K (VR K) Wx R ρ ((view v μ).bind fun p ν => (view w ν).bind fun q τ => (ofO (bin2 .mul p q) τ).bind fun r κ => ((match r with | .lst xs => pure (.lst xs) | _ => SW.no : M MO) >>= newO) κ) Q := by
    have e : fRep v w = (view v >>= fun p => view w >>= fun q => ofO (bin2 .mul p q) >>= fun r => (match r with | .lst xs => pure (.lst xs) | _ => SW.no : M MO) >>= newO) := by
      unfold fRep
      rw [m_assoc]; congr 1; funext p; rw [m_assoc]; congr 1; funext q; rw [m_assoc]
    rw [e] at P
    exact P
  obtain ⟨p, hp, P⟩ := view_cases m rv P
  obtain ⟨q, hq, P⟩ := view_cases m rw' P
  obtain ⟨r, hr, P⟩ := ofO_cases P
  cases r with
  | lst rs =>
    cases p <;> cases q <;> simp only [bin2, reduceCtorEq, Option.ite_none_right_eq_some, Option.some.injEq, Bool.and_eq_true, Bool.or_eq_true, decide_eq_true_eq, and_false, PV.lst.injEq] at hr
    obtain ⟨⟨⟨h1, h2⟩, h3⟩, rfl⟩ := hr
    obtain ⟨a, vs, rfl, ht, rs⟩ := hp.lst_inv
    rw [hq.int_inv]
    refine ⟨a, _, vs, rfl, rfl, ht, by omega, by omega, ?_, push_lst m (rs.rep _) P⟩
    rw [rs.length]; exact okN_le h3
  | _ => exact P.elim
theorem ev_rep {a b : Expr} (ha : PE X a (liftE X.K EC W ga)) (hb : PE X b (liftE X.K EC W gb)) :
    PE X (.BinOp a .Mult b pos) (liftE X.K EC W fun l => do let x ← ga l; let y ← gb l; fRep x y) := ev_bin op_repL (opS_rep X.K) ha hb
/-- list(x), to change -/
theorem ev_listOf (hg : Gl X "list") (hm : X.mg "list" = none) (ha : PE X e (liftE X.K EC W ga)) (hs : starEach [e] X.env = [(false, eval e X.env)]) :
    PE X (.Call (.Name "list" p) [e] [] pos) (liftE X.K EC W fun l => do
      let o ← (do
        let x ← ga l
        let p ← view x
        match p with
          | .lst xs => pure (.lst xs)
          | .tup xs => pure (.lst xs)
          | _ => SW.no : M MO)
      newO o) := by
  refine PE.imp (pe_callTy call_list_of hg hm rfl (pa_cons ha pa_nil hs) (by decide) (by decide) hs rfl) fun σ H Q h => ?_
  have h := lift_congr (g' := fun l => ga l >>= fun x => view x >>= fun p => (match p with
          | .lst xs => pure (.lst xs)
          | .tup xs => pure (.lst xs)
          | _ => SW.no : M MO) >>= newO) (fun l => by
    rw [m_assoc]; congr 1; funext x; rw [m_assoc]) h
  refine lift_bind h fun F R ρ l μ H1 v x m s r P => ?_
  obtain ⟨q, hq, P⟩ := view_cases m r P
  cases q with
  | lst ps =>
    obtain ⟨a, vs, rfl, h1, h2⟩ := hq.sq
    exact ⟨a, vs, rfl, .inl h1, push_lst m h2 P⟩
  | tup ps =>
    obtain ⟨a, vs, rfl, h1, h2⟩ := hq.tup_inv
    exact ⟨a, vs, rfl, .inr (SqT.mono m.sub h1), push_lst m h2 P⟩
  | _ => exact P.elim
end
/-! ### the ends of comprehensions -/
def finV (ys : List PV) : M Val := if SW.okN ys.length then pure (Val.v (.lst ys)) else SW.no
def finO (ys : List PV) : M Val := do
  let o ← (if SW.okN ys.length then pure (.lst ys) else SW.no : M MO)
  newO o
theorem finV_ok (K : Fg) : FinOk K finV := by
  refine ⟨fun ys μ h => ?_, fun F R H ρ μ D ys vs Q Wx m h1 h2 h3 h4 r P => ?_⟩
  · unfold finV at h
    split at h
    · rename_i hz; exact Nat.le_of_ble_eq_true hz
    · exact absurd rfl h
  · unfold finV at P
    split at P
    · obtain ⟨m', s'⟩ := m.adoptR h1 h2 h3 h4
      exact P _ ρ H (.ref D) s' (List.prefix_refl ρ) m' (.lst (.inl upd_same) (r.mono s'))
    · exact P.elim
theorem finO_ok (K : Fg) : FinOk K finO := by
  refine ⟨fun ys μ h => ?_, fun F R H ρ μ D ys vs Q Wx m h1 h2 h3 h4 r P => ?_⟩
  · unfold finO at h
    split at h
    · rename_i hz; exact Nat.le_of_ble_eq_true hz
    · exact absurd rfl h
  · unfold finO at P
    split at P
    · exact P R (ρ ++ [D]) H (.ref D) (Sub.refl R) (List.prefix_append ρ [D]) (m.adoptO (x := .lst ys) ⟨vs, h1, r⟩ h2 h3 h4) ⟨D, by rw [← m.len]; simp, rfl⟩
    · exact P.elim
/-! ### a list comprehension -/
def W0 : WX := fun _ _ _ _ => False
section
variable {X : Cx} {EC : Nat → Value} {W : WX} {elt tg iter : Expr} {ifs : List Expr} {scope : Scope} {ownP : List (Str × Nat)} {pos : Pos} {gi : LF (List PV × Srcs)} {p : Pat} {gc : LF Bool} {ge : LF Val} {fin : List PV → M Val}
/-- what the parts are to do -/
structure LcOk (X : Cx) (EC : Nat → Value) (W : WX) (elt tg iter : Expr) (ifs : List Expr) (scope : Scope) (ownP : List (Str × Nat)) (gi : LF (List PV × Srcs)) (p : Pat) (gc : LF Bool) (ge : LF Val) : Prop where
  it : PI X tg iter (liftI X.K EC W gi)
  blk : BlkOk X.N X.env.scope scope ownP
  tg : ∀ (s : Shared) (H : Hp) (C : Addr) (cl : List (Str × Addr)) (fp : List Addr), PG (X.blk s H scope (compEnvC scope cl C X.env) fp) tg (gPat X.K p)
  ts : ∀ (s : Shared) (H : Hp) (C : Addr) (cl : List (Str × Addr)) (fp : List Addr), PTs (X.blk s H scope (compEnvC scope cl C X.env) fp) ifs (liftT X.K EC W0 gc)
  el : ∀ (s : Shared) (H : Hp) (C : Addr) (cl : List (Str × Addr)) (fp : List Addr), PE (X.blk s H scope (compEnvC scope cl C X.env) fp) elt (liftE X.K EC W0 ge)
  fs : ∀ x, foldedSetIterable iter X.env x = pure x
  ps : ∀ i ∈ pslots p, i ∈ ownP.map (·.2)
  pc : ∀ l, Pres (gc l)
  pe : ∀ l, Pres (ge l)
  th : ∀ l μ r μ', gi l μ = .ok r μ' → There r.2 μ'
theorem ev_lc (hc : X.calm = true) (hN : X.N.Nodup) (L : LcOk X EC W elt tg iter ifs scope ownP gi p gc ge) (hf : FinOk X.K fin) :
    PE X (.ListComp elt [⟨tg, iter, ifs, 0⟩] scope pos) (liftE X.K EC W (gComp gi (stepC p (ownP.map (·.2)) gc ge) fin)) :=
  PE.imp (pe_lc hc hN L.it L.blk L.tg L.ts L.el L.fs) fun σ H Q h => comp_core L.ps L.pc L.pe L.th hf h
theorem es_setLc {i : Nat} {y : Str} {py spos : Pos} (hc : X.calm = true) (hN : X.N.Nodup) (hy : X.N[i]? = some y) (hyl : X.env.scope.names.lookup y = some .local)
    (hsw : swapsWith (.ListComp elt [⟨tg, iter, ifs, 0⟩] scope pos) (some (.Name y py)) spos.line X.env = pure true) (L : LcOk X EC W elt tg iter ifs scope ownP gi p gc ge) (hf : FinOk X.K fin) :
    PS X (.Assign [.Name y py] (.ListComp elt [⟨tg, iter, ifs, 0⟩] scope pos) spos) (liftS X.K EC W fun l => do let v ← gComp gi (stepC p (ownP.map (·.2)) gc ge) fin l; SW.lift2 (SW.asgV (.v i) v l)) := by
  refine PS.imp (ps_setLc hc hN hy hyl hsw L.it L.blk L.tg L.ts L.el L.fs) fun D σ H h => ?_
  refine comp_core (EC := EC) (W := W) L.ps L.pc L.pe L.th hf ?_
  exact lift_bind h fun F R ρ l μ H1 v x m s r P => asg_ok (p := .v i) m s r P
/-- no test, one test -/
theorem ts_nil : PTs X [] (liftT X.K EC W fun _ => pure true) := ⟨fun pins s σ H Q I h => by
  obtain ⟨F, R, ρ, l, μ, m, sr, P⟩ := h
  exact (pts_nil (X := X)).run pins s σ H Q I (Post.here P m rfl)⟩
theorem ts_one {c : Expr} (h : PT X c (liftT X.K EC W gc)) : PTs X [c] (liftT X.K EC W fun l => do let x ← gc l; if x then pure true else pure false) := by
  refine ⟨fun pins s σ H Q I hq => (pts_one h).run pins s σ H Q I ?_⟩
  refine lift_bind hq fun F R ρ l μ H1 v x m sr r P => ?_
  have r : v = x := r
  subst r
  cases v with
  | true => exact Post.here P m rfl
  | false => exact Post.here P m rfl
end
section
variable {X : Cx} {e : Expr} {t : TE} {pos : Pos}
theorem ev_and1 (h : PE X e t) : PE X (.BoolOp .And [e] pos) t := ⟨fun pins s σ H Q I q => h.run pins s σ H Q I q⟩
theorem ev_or1 (h : PE X e t) : PE X (.BoolOp .Or [e] pos) t := ⟨fun pins s σ H Q I q => h.run pins s σ H Q I q⟩
end
theorem takes_W0 {X : Cx} : Takes X W0 := takes_none5
theorem wok_W0 : WOk W0 := fun _ _ _ _ _ h => h
theorem PE.g {X : Cx} {EC : Nat → Value} {W : WX} {e : Expr} {g g' : LF Val} (h : PE X e (liftE X.K EC W g)) (q : ∀ l, g' l = g l) : PE X e (liftE X.K EC W g') := by
  have : g' = g := funext q
  rw [this]; exact h
theorem PT.g {X : Cx} {EC : Nat → Value} {W : WX} {e : Expr} {g g' : LF Bool} (h : PT X e (liftT X.K EC W g)) (q : ∀ l, g' l = g l) : PT X e (liftT X.K EC W g') := by
  have : g' = g := funext q
  rw [this]; exact h
theorem PW.g {X : Cx} {EC : Nat → Value} {W : WX} {e : Expr} {g g' : LF Bool} (h : PW X e (liftT X.K EC W g)) (q : ∀ l, g' l = g l) : PW X e (liftT X.K EC W g') := by
  have : g' = g := funext q
  rw [this]; exact h
theorem PA.g {X : Cx} {EC : Nat → Value} {W : WX} {e : List Expr} {g g' : LF (List Val)} (h : PA X e (liftA X.K EC W g)) (q : ∀ l, g' l = g l) : PA X e (liftA X.K EC W g') := by
  have : g' = g := funext q
  rw [this]; exact h
theorem PI.g {X : Cx} {EC : Nat → Value} {W : WX} {tg e : Expr} {g g' : LF (List PV × Srcs)} (h : PI X tg e (liftI X.K EC W g)) (q : ∀ l, g' l = g l) : PI X tg e (liftI X.K EC W g') := by
  have : g' = g := funext q
  rw [this]; exact h
theorem PS.g {X : Cx} {EC : Nat → Value} {W : WX} {st : Stmt} {g g' : LF (SW.Loc × Fl)} (h : PS X st (liftS X.K EC W g)) (q : ∀ l, g' l = g l) : PS X st (liftS X.K EC W g') := by
  have : g' = g := funext q
  rw [this]; exact h
theorem PSs.g {X : Cx} {EC : Nat → Value} {W : WX} {st : List Stmt} {g g' : LF (SW.Loc × Fl)} (h : PSs X st (liftS X.K EC W g)) (q : ∀ l, g' l = g l) : PSs X st (liftS X.K EC W g') := by
  have : g' = g := funext q
  rw [this]; exact h
end SWS
end
section
set_option maxRecDepth 100000
set_option maxHeartbeats 2000000
/-! Sets of keys in a comprehension; how many. -/
namespace SWS
open PySem PySem.Spec PyProof.Rows L2
open SW (PV Val MO Ky Mem Res M E OF Cn Pat Fl view flat flats ofO bin2 Srcs Keeps Pres Mode FD newO)
section
variable {X : Cx}
/-- {elt for target in iter if ..}, elt a key -/
def tScK (P : Program) (w : World) (wi : TI) (g : TG) (tt : TT) (te : TE) (vs : List Nat) : TE := fun σ H Q => wi σ H fun J H1 => ∀ D, H1 D = none → ∃ W : Nat → Nat → Hp → Prop, (∃ m, W 0 m (upd H1 D (SetK P w D (fun _ => false) 0))) ∧ ∀ i m H, W i m H →
  (J.stop i H ∧ Q (.ref D) H) ∨ (J.go i H ∧ ∃ Nx : Hp → Prop, (∀ H', Nx H' → ∃ m', m' < m ∧ W (i + 1) m' H') ∧ ∀ x H', J.yld i H x H' → g x (L2.wipe σ vs) H' fun σ2 H2 => L2.wipe σ2 vs = L2.wipe σ vs ∧ tt σ2 H2 fun b H3 =>
    if b = true then te σ2 H3 fun y H4 => ∃ (k : Key) (S : Key → Bool) (n : Nat), y = kV k ∧ H4 D = some (SetK P w D S n) ∧ n + 1 < scanBound ∧ Nx (upd H4 D (SetK P w D (fun j => S j || decide (j = k)) (if S k = true then n else n + 1))) else Nx H3)
theorem setK_fresh {P : Program} {w : World} {h : Heap} : (h.push { cls := .type "set", dict := none, data := .set #[] 0 (.fresh 0 0 (!w.params.followText "set-order")) }).SetOf (mixKind P w) h.objs.size (fun _ => false) 0 :=
  ⟨_, #[], 0, _, Heap.get?_push_size _ rfl, ⟨rfl, rfl, rfl⟩, rfl, (fun e he => by simp at he), (fun k => by simp), (by decide), (by rfl), rfl⟩
theorem addK_ok {pins : List (Addr × Obj)} {σ : L2.St} {H : Hp} {s : Shared} {E : Value → Shared → Prop} {D : Addr} {S : Key → Bool} {n : Nat} {k : Key} {u : Value} {Q : Value → Shared → Prop} (I : Inv X pins σ H s) (r : RelV (kV k) u) (hD : H D = some (SetK X.prog X.w D S n)) (room : n + 1 < scanBound)
    (h : ∀ s', Inv X pins σ (upd H D (SetK X.prog X.w D (fun j => S j || decide (j = k)) (if S k = true then n else n + 1))) s' → Q .none s') : wpAny (model X.prog X.w) X.A (call (.builtin "set.add") [.ref D, u]) Q E s := by
  refine call_set_add (kV_is r) (key_scan r) (setK_get I hD) room fun h' sb new => ?_
  have he : ∃ u, h'.get? D = some u := by
    have ⟨o, _, _, _, ho, _⟩ := new
    exact ⟨o, ho⟩
  exact h _ (I.write (e := D) (t' := s.toks + 1) (by rw [hD]; trivial) (.inl rfl) (fun b u hb hu => (sb.2 b hb).trans hu) he (setK_new new))
theorem scK_core {pins : List (Addr × Obj)} {s : Shared} {σ : L2.St} {H : Hp} {Q : VK} {elt tg iter : Expr} {ifs : List Expr} {scope : Scope} {own : List (PySem.Str × Nat)} {pos pos' : Pos} {wi : TI} {g : TG} {tt : TT} {te : TE} {use : Option (Value → Sem Unit)} {Qf : Value → Shared → Prop}
    (hc : X.calm = true) (hN : X.N.Nodup) (I : Inv X pins σ H s) (hi : PI X tg iter wi) (ok : BlkOk X.N X.env.scope scope own)
    (hg : ∀ (s : Shared) (H : Hp) (C : Addr) (cl : List (PySem.Str × Addr)) (fp : List Addr), PG (X.blk s H scope (compEnvC scope cl C X.env) fp) tg g) (ht : ∀ (s : Shared) (H : Hp) (C : Addr) (cl : List (PySem.Str × Addr)) (fp : List Addr), PTs (X.blk s H scope (compEnvC scope cl C X.env) fp) ifs tt)
    (he : ∀ (s : Shared) (H : Hp) (C : Addr) (cl : List (PySem.Str × Addr)) (fp : List Addr), PE (X.blk s H scope (compEnvC scope cl C X.env) fp) elt te) (hs : ∀ x, foldedSetIterable iter X.env x = pure x)
    (h : tScK X.prog X.w wi g tt te (own.map (·.2)) σ H Q)
    (hRR : ∀ D C s' m H', Inv X pins σ H' s' → Q (.ref D) H' → s'.heap.Ns C m → FpOk X pins H' C → compPost (model X.prog X.w) X.A X.xe use Qf (.ref D) C (.ok .next) s') :
    wpAny (model X.prog X.w) X.A (comprehension (.SetComp elt [⟨tg, iter, ifs, 0⟩] scope pos) scope X.env pos' (newSet (.type "set")) false (eval iter X.env) use) Qf X.xe s := by
  have hfree : ∀ y ∈ scope.names, y.2 = .free → ∃ c, X.env.cells.lookup y.1 = some c := fun y hy e => by
    rcases ok.free y hy e with k | k
    · exact I.ok.has _ (.inl k)
    · exact I.ok.has _ (.inr k)
  refine wpAny_comprehension_free (use := use) rfl hs (closure_ok hfree) ok.kind (fun y hy e => by rw [ok.uniq y hy, e])
    (thn (hi.run pins s σ H _ I h) fun xv s1 hx => thn hx fun itv s2 h2 => ?_)
  obtain ⟨it, fp, tn, J, H2, e, I2, T, st2, f2, q⟩ := h2
  subst e
  refine PpSet.newSet_ok (newEnv_comp ?_)
  generalize hD : s2.heap.objs.size = D
  have hDn : H2 D = none := I2.hok.fresh (Nat.le_of_eq hD)
  obtain ⟨W, ⟨m0, w0⟩, turn⟩ := q D hDn
  generalize hs3 : ({ s2 with heap := s2.heap.push { cls := .type "set", dict := none, data := .set #[] 0 (.fresh 0 0 (!X.w.params.followText "set-order")) } } : Shared) = s3
  have I3 : Inv X pins σ (upd H2 D (SetK X.prog X.w D (fun _ => false) 0)) s3 := by
    rw [← hs3]
    refine I2.laid (t' := s2.toks) (fun b o e => Heap.get?_push_of_some _ e) (Nat.le_of_eq hD) ?_
    rw [← hD]
    exact setK_new setK_fresh
  have h3 : s3.heap = s2.heap.push { cls := .type "set", dict := none, data := .set #[] 0 (.fresh 0 0 (!X.w.params.followText "set-order")) } := by rw [← hs3]
  have f3 : ∀ b ∈ fp, FpOk X pins (upd H2 D (SetK X.prog X.w D (fun _ => false) 0)) b ∧ b < s3.heap.objs.size := fun b hb => by
    have hlt : b < s2.heap.objs.size := by
      obtain ⟨o, e, _⟩ := T.obj _ _ st2 b hb
      exact Heap.lt_size e
    refine ⟨⟨?_, (f2 b hb).2⟩, by rw [h3, Heap.size_push]; exact Nat.lt_succ_of_lt hlt⟩
    rw [upd_ne (by rw [← hD]; exact Nat.ne_of_lt hlt)]
    exact (f2 b hb).1
  have st3 : tn 0 s3.heap := T.keep _ _ _ st2 fun b _ o e => by rw [h3]; exact Heap.get?_push_of_some _ e
  have I4 := block_start I3 ok hN f3
  have pg := hg s3 (upd H2 D (SetK X.prog X.w D (fun _ => false) 0)) s3.heap.objs.size (cellsFrom (s3.heap.objs.size + 1) scope.names (cloFrom X.env.cells scope.names [])) fp
  have pt := ht s3 (upd H2 D (SetK X.prog X.w D (fun _ => false) 0)) s3.heap.objs.size (cellsFrom (s3.heap.objs.size + 1) scope.names (cloFrom X.env.cells scope.names [])) fp
  have pe := he s3 (upd H2 D (SetK X.prog X.w D (fun _ => false) 0)) s3.heap.objs.size (cellsFrom (s3.heap.objs.size + 1) scope.names (cloFrom X.env.cells scope.names [])) fp
  show codeAny _ _ (.compStart (.SetComp elt [⟨tg, iter, ifs, 0⟩] scope pos) 0 (.ref it) (.ref D) (compEnvC scope (cellsFrom (s3.heap.objs.size + 1) scope.names (cloFrom X.env.cells scope.names [])) s3.heap.objs.size X.env)) (compPost (model X.prog X.w) X.A X.xe use Qf (.ref D) s3.heap.objs.size) { s3 with heap := pushCells (s3.heap.push { cls := .type "dict", data := .dict #[] }) scope.names }
  have nfp : ∀ b ∈ fp, (upd H2 D (SetK X.prog X.w D (fun _ => false) 0)) b = none := fun b hb => (f3 b hb).1.1
  generalize hce : compEnvC scope (cellsFrom (s3.heap.objs.size + 1) scope.names (cloFrom X.env.cells scope.names [])) s3.heap.objs.size X.env = ce at I4 pg pt pe ⊢
  have cL : ce.locals = s3.heap.objs.size := by subst hce; rfl
  generalize hH3 : upd H2 D (SetK X.prog X.w D (fun _ => false) 0) = H3 at I3 I4 pg pt pe w0 nfp f3
  generalize hs4 : ({ s3 with heap := pushCells (s3.heap.push { cls := .type "dict", data := .dict #[] }) scope.names } : Shared) = s4 at I4 ⊢
  have st4 : tn 0 s4.heap := T.keep _ _ _ st3 fun b _ o e => by rw [← hs4]; exact pushCells_keeps _ _ _ _ (Heap.get?_push_of_some _ e)
  have stat : ∀ {σ' : L2.St} {H' : Hp} {s' : Shared}, Inv (X.blk s3 H3 scope ce fp) [] σ' H' s' → (∀ b ∈ fp, H' b = none) → ∀ b ∈ fp, FpOk (X.blk s3 H3 scope ce fp) [] H' b := fun {σ' H' s'} I' hn b hb =>
    ⟨hn b hb, (I'.ok.exf b hb).1, I'.ok.exfs b hb, .inl hb, fun x c e => (I'.ok.exf b hb).2 x c e, fun p hp => absurd (show p ∈ ([] : List (Addr × Obj)) ++ [] from hp) (by simp)⟩
  have loop : codeAny (model X.prog X.w) X.A (.compLoop (.SetComp elt [⟨tg, iter, ifs, 0⟩] scope pos) 0 (.ref it) (.ref D) ce) (compPost (model X.prog X.w) X.A X.xe use Qf (.ref D) s3.heap.objs.size) s4 := by
    refine PpSet.compLoopS_any (fun n s' => ∃ i H', Inv (X.blk s3 H3 scope ce fp) [] (L2.wipe σ (own.map (·.2))) H' s' ∧ tn i s'.heap ∧ (∀ b ∈ fp, H' b = none) ∧ W i n H') ?_ m0 ⟨0, H3, I4, st4, nfp, w0⟩
    rintro n s5 ⟨i, H5, I5, st5, n5, w5⟩
    rcases turn i n H5 w5 with ⟨stop, qq⟩ | ⟨go, Nx, hNx, step⟩
    · have td := T.done (X.blk s3 H3 scope ce fp) rfl rfl rfl hc i [] s5 _ H5 (fun _ _ => False) I5 (stat I5 n5) st5 stop
      refine thnF td fun r s6 ⟨hr, I6⟩ => ?_
      subst hr
      have I7 : Inv X pins σ H5 s6 := I3.call' (ch := fp) I6.os I6.base I6.hok I6.bare fun b hb => ⟨(f3 b hb).1.2.2.2.1, (f3 b hb).1.2.1, (f3 b hb).1.2.2.2.2.1, (f3 b hb).1.2.2.2.2.2⟩
      have nC : H5 s3.heap.objs.size = none := by
        have z : H5 ce.locals = none := I6.free
        rw [cL] at z
        exact z
      obtain ⟨m, hn, _⟩ := I6.loc
      have hn : s6.heap.Ns ce.locals m := hn
      rw [cL] at hn
      exact hRR D s3.heap.objs.size s6 m H5 I7 qq hn (I3.fpOk (Nat.le_refl _) nC)
    · have ti := T.item (X.blk s3 H3 scope ce fp) rfl rfl rfl hc i [] s5 _ H5 (fun _ _ => False) I5 (stat I5 n5) st5 go
      refine thnF ti fun r s6 ⟨u, hr, h6⟩ => ?_
      subst hr
      refine thnF h6 fun _ s7 ⟨x, H7, I7, r7, y7, st7, n7⟩ => ?_
      have I7' := I7.pinned (stat I7 n7) (T.obj _ _ st7)
      refine thnF (pg.run _ s7 _ H7 x u _ I7' r7 (step x H7 y7)) fun _ s8 ⟨σ8, H8, I8, hw8, q8⟩ => ?_
      refine thnF (pt.run _ s8 σ8 H8 _ I8 q8) fun b s9 ⟨H9, I9, q9⟩ => ?_
      have fin : ∀ {s' : Shared} {H' : Hp}, Inv (X.blk s3 H3 scope ce fp) ([] ++ pinsAt fp s7.heap) σ8 H' s' → Nx H' → ∃ m, m < n ∧ ∃ i H', Inv (X.blk s3 H3 scope ce fp) [] (L2.wipe σ (own.map (·.2))) H' s' ∧ tn i s'.heap ∧ (∀ b ∈ fp, H' b = none) ∧ W i m H' := fun {s' H'} I' nx => by
        obtain ⟨m', hm, w'⟩ := hNx H' nx
        have pin' : ∀ b ∈ fp, ∀ o, s7.heap.get? b = some o → s'.heap.get? b = some o ∧ H' b = none := fun b hb o e =>
          let z := I'.pin (b, o) (List.mem_append_right _ (List.mem_append_right _ (mem_pinsAt hb e)))
          ⟨z.1, z.2.1⟩
        have hl : (L2.wipe σ (own.map (·.2))).length = σ8.length := by rw [← hw8, L2.wipe_length]
        refine ⟨m', hm, i + 1, H', (I'.unpinned (pins := [])).weak hl (fun j v e => ?_), T.keep _ _ _ st7 fun b hb o e => (pin' b hb o e).1, fun b hb => ?_, w'⟩
        · rw [← hw8] at e
          exact (wipe_some e).1
        · obtain ⟨o, e, _⟩ := T.obj _ _ st7 b hb
          exact (pin' b hb o e).2
      cases b with
      | false =>
        simp only [Bool.false_eq_true, if_false] at q9 ⊢
        exact fin I9 q9
      | true =>
        simp only [if_true] at q9 ⊢
        refine thnF (pe.run _ s9 σ8 H9 _ I9 q9) fun z s10 ⟨yv, H10, I10, r10, cb, S0, n0, ey, hD10, hz10, nx⟩ => ?_
        subst ey
        exact addK_ok (X := X.blk s3 H3 scope ce fp) I10 r10 hD10 hz10 fun s11 I11 => fin I11 nx
  exact PpSet.codeAny_compStart_set loop (T.self X.A 0 _ _ _ st4 loop)
theorem pe_scK {elt tg iter : Expr} {ifs : List Expr} {scope : Scope} {own : List (PySem.Str × Nat)} {pos : Pos} {wi : TI} {g : TG} {tt : TT} {te : TE} (hc : X.calm = true) (hN : X.N.Nodup) (hi : PI X tg iter wi) (ok : BlkOk X.N X.env.scope scope own)
    (hg : ∀ (s : Shared) (H : Hp) (C : Addr) (cl : List (PySem.Str × Addr)) (fp : List Addr), PG (X.blk s H scope (compEnvC scope cl C X.env) fp) tg g) (ht : ∀ (s : Shared) (H : Hp) (C : Addr) (cl : List (PySem.Str × Addr)) (fp : List Addr), PTs (X.blk s H scope (compEnvC scope cl C X.env) fp) ifs tt)
    (he : ∀ (s : Shared) (H : Hp) (C : Addr) (cl : List (PySem.Str × Addr)) (fp : List Addr), PE (X.blk s H scope (compEnvC scope cl C X.env) fp) elt te) (hs : ∀ x, foldedSetIterable iter X.env x = pure x) :
    PE X (.SetComp elt [⟨tg, iter, ifs, 0⟩] scope pos) (tScK X.prog X.w wi g tt te (own.map (·.2))) := by
  refine ⟨fun pins s σ H Q I h => ?_⟩
  rw [PpSet.eval_SetComp]
  refine scK_core hc hN I hi ok hg ht he hs h fun D C s' m H' I' q hn f => ⟨m, hn, fun h'' sb => ?_⟩
  obtain ⟨f0, f1, f2, f3, f4, f5⟩ := f
  exact ⟨.ref D, H', I'.turned (t' := s'.toks) (fun b o hb e => (sb.2 b hb).trans e) f0 f1 f3 f4 f5, rfl, q⟩
/-- how many -/
def rLenK (P : Program) (w : World) : List V → Hp → VK → Prop := fun xs H Q => ∃ a S n, xs = [.ref a] ∧ H a = some (SetK P w a S n) ∧ Q (.int (n : Int)) H
theorem call_lenK : CallR X (.builtin "len") (rLenK X.prog X.w) := by
  intro pins s σ H xs us Q I r h
  obtain ⟨a, S, n, rfl, ha, q⟩ := h
  rw [Vals.ref1 r]
  obtain ⟨o, es, ep, t, ho, hex, hd, _, _, hb, hf, rfl⟩ := setK_get I ha
  refine call_len_set ho hex hd hf (by have : scanBound = 4096 := rfl; omega) ?_
  exact ⟨.int (es.size : Int), H, I.tok _, ⟨_, rfl⟩, q⟩
end
/-! ### the core -/
theorem hasK_iff {k : Ky} {r : List Ky} : SW.hasK k r = true ↔ k ∈ r := by
  unfold SW.hasK
  rw [List.any_eq_true]
  constructor
  · rintro ⟨x, hx, e⟩; exact of_decide_eq_true e ▸ hx
  · exact fun h => ⟨k, h, decide_eq_true rfl⟩
theorem hasK_no {k : Ky} {r : List Ky} : ¬ SW.hasK k r = true ↔ k ∉ r := not_congr hasK_iff
theorem onceK_push (k : Ky) : ∀ acc : List Ky, (k ∈ acc → (SW.onceK (acc ++ [k])).length = (SW.onceK acc).length) ∧ (k ∉ acc → (SW.onceK (acc ++ [k])).length = (SW.onceK acc).length + 1)
  | [] => ⟨fun h => by simp at h, fun _ => by simp [SW.onceK, SW.hasK]⟩
  | x :: r => by
    rw [List.cons_append, SW.onceK, SW.onceK]
    obtain ⟨ih1, ih2⟩ := onceK_push k r
    by_cases h1 : x ∈ r
    · rw [if_pos (hasK_iff.mpr (by simp [h1])), if_pos (hasK_iff.mpr h1)]
      refine ⟨fun h => ?_, fun h => ih2 fun z => h (by simp [z])⟩
      rcases List.mem_cons.mp h with e | h
      · exact ih1 (e ▸ h1)
      · exact ih1 h
    · rw [if_neg (hasK_no.mpr h1)]
      by_cases h3 : x = k
      · subst h3
        rw [if_pos (hasK_iff.mpr (by simp)), List.length_cons]
        exact ⟨fun _ => ih2 h1, fun h => absurd (by simp) h⟩
      · rw [if_neg (hasK_no.mpr (by simp [h1, h3])), List.length_cons, List.length_cons]
        refine ⟨fun h => ?_, fun h => by rw [ih2 fun z => h (by simp [z])]⟩
        rcases List.mem_cons.mp h with e | h
        · exact absurd e.symm h3
        · rw [ih1 h]
theorem onceK_le : ∀ acc : List Ky, (SW.onceK acc).length ≤ acc.length
  | [] => Nat.le_refl _
  | x :: r => by
    rw [SW.onceK]
    have := onceK_le r
    split
    · rw [List.length_cons]; omega
    · rw [List.length_cons, List.length_cons]; omega
theorem keysOf_app : ∀ (xs ys : List PV), SW.keysOf (xs ++ ys) = match SW.keysOf xs, SW.keysOf ys with | some a, some b => some (a ++ b) | _, _ => none
  | [], ys => by cases e : SW.keysOf ys <;> simp [SW.keysOf, e]
  | x :: xs, ys => by
    rw [List.cons_append, SW.keysOf, keysOf_app xs ys, SW.keysOf]
    cases SW.keyOf x <;> cases SW.keysOf xs <;> cases SW.keysOf ys <;> rfl
def finK (ys : List PV) : M Val := match SW.keysOf ys with
  | some ks => if Nat.ble ks.length 4000 then pure (Val.v (.int (SW.onceK ks).length)) else SW.no
  | none => SW.no
theorem finK_inv {ys : List PV} {μ : Mem} (h : finK ys μ ≠ .no) : ∃ ks, SW.keysOf ys = some ks ∧ ks.length ≤ 4000 := by
  unfold finK at h
  cases e : SW.keysOf ys with
  | none => rw [e] at h; exact absurd rfl h
  | some ks =>
    rw [e] at h
    dsimp only at h
    split at h
    · rename_i hz; exact ⟨ks, rfl, Nat.le_of_ble_eq_true hz⟩
    · exact absurd rfl h
theorem post_keys {K : Fg} {F R : Hp} {ρ : List Addr} {Wx : Nat → Hp → Prop} {Q : VK} {f : PV → M (Option PV)} (h : ∀ x μ c ν, f x μ ≠ .exn c ν) {xs acc : List PV} {ls : List Nat} {μ : Mem}
    (P : Post F K (VR K) Wx R ρ ((SW.compL f xs μ).bind fun ys ν => (SW.unlockM ls ν).bind fun _ τ => finK (acc ++ ys) τ) Q) : ∃ ks, SW.keysOf acc = some ks ∧ ks.length ≤ 4000 := by
  cases e1 : SW.compL f xs μ with
  | no => rw [e1] at P; exact P.elim
  | exn c ν => exact absurd e1 (compL_exn h xs μ c ν)
  | ok ys ν =>
    rw [e1, SW.rbind_ok] at P
    cases e2 : SW.unlockM ls ν with
    | no => rw [e2] at P; exact P.elim
    | exn c τ => exact absurd e2 (unlockM_exn ls ν c τ)
    | ok u τ =>
      rw [e2, SW.rbind_ok] at P
      obtain ⟨ks, h1, h2⟩ := finK_inv (ys := acc ++ ys) (μ := τ) (fun z => by rw [z] at P; exact P)
      rw [keysOf_app] at h1
      cases e3 : SW.keysOf acc with
      | none => rw [e3] at h1; cases h1
      | some a =>
        cases e4 : SW.keysOf ys with
        | none => rw [e3, e4] at h1; cases h1
        | some b =>
          rw [e3, e4] at h1
          cases h1
          exact ⟨a, rfl, by rw [List.length_append] at h2; omega⟩
def inK (ks : List Ky) (j : Key) : Bool := ks.any fun k => decide (j = skey k)
theorem compS_core {PP : Program} {w : World} {K : Fg} {EC EC' : Nat → Value} {W W' : WX} {gi : LF (List PV × Srcs)} {p : Pat} {own : List Nat} {gc : LF Bool} {ge : LF Val} (hp : ∀ i ∈ pslots p, i ∈ own) (hc : ∀ l, Pres (gc l)) (he : ∀ l, Pres (ge l))
    (ht : ∀ l μ r μ', gi l μ = .ok r μ' → There r.2 μ') {σ : L2.St} {H : Hp} {Q : VK} (h : liftE K EC W (gComp gi (stepC p own gc ge) finK) σ H Q) :
    tScK PP w (liftI K EC W gi) (gPat K p) (liftT K EC' W' gc) (liftE K EC' W' ge) own σ H fun v H' => rLenK PP w [v] H' Q := by
  refine lift_bindE h fun F R ρ l μ0 μ1 H1 r J e0 m1 sr rI P => ?_
  obtain ⟨xs, src⟩ := r
  have hthere := ht _ _ _ _ e0
  dsimp only at P hthere
  intro D hD
  have P : Post F K (VR K) (wx EC W σ) R ρ ((SW.lockM src μ1).bind fun ls μ2 => (SW.compL (stepC p own gc ge l) xs μ2).bind fun ys μ3 => (SW.unlockM ls μ3).bind fun _ μ4 => finK ys μ4) Q := P
  cases el : SW.lockM src μ1 with
  | no => rw [el] at P; exact P.elim
  | exn c ν => exact absurd el (lockM_exn src μ1 c ν)
  | ok ls μ2 =>
    rw [el] at P
    obtain ⟨m2, hd2⟩ := lock_MR m1 hthere el
    have hFD : F D = none := by
      cases e : F D with
      | none => rfl
      | some u => rw [m1.fr D u e] at hD; cases hD
    let Wd : Nat → Hp → Prop := fun i H => ∃ Ri ρi μi accP ks S n, Sub R Ri ∧ ρ <+: ρi ∧ MR (upd F D (SetK PP w D S n)) K Ri ρi μi H ∧ SW.keysOf accP = some ks ∧ (∀ j, S j = inK ks j) ∧ n = (SW.onceK ks).length ∧ Keeps μ2 μi ∧
      Post F K (VR K) (wx EC W σ) Ri ρi ((SW.compL (stepC p own gc ge l) (xs.drop i) μi).bind fun ys ν => (SW.unlockM ls ν).bind fun _ τ => finK (accP ++ ys) τ) Q
    refine ⟨fun i m H => m = xs.length - i ∧ i ≤ xs.length ∧ Wd i H, ⟨xs.length, by simp, Nat.zero_le _, R, ρ, μ2, [], [], _, _, Sub.refl R, List.prefix_refl ρ, m2.frame_in hD _, rfl, fun j => rfl, rfl, Keeps.refl _, P⟩, ?_⟩
    rintro i m H2 ⟨rfl, hi, Ri, ρi, μi, accP, ks, S, n, si, pi, mi, ri, hS, hn, ki, Pi⟩
    have Wi := rI (upd F D (SetK PP w D S n)) Ri ρi μi H2 si pi mi (hd2.keep ki)
    dsimp only at Wi
    obtain ⟨go, stop, yld⟩ := Wi
    by_cases hlt : i < xs.length
    · refine .inr ⟨go i hlt, Wd (i + 1), fun H' w => ⟨xs.length - (i + 1), by omega, rfl, hlt, w⟩, fun x H' hy => ?_⟩
      obtain ⟨R3, s3, m3, rx⟩ := yld i x H' hlt hy _ (List.getElem?_eq_getElem hlt)
      rw [List.drop_eq_getElem_cons hlt, compL_step] at Pi
      have hx : ∀ x μ c ν, stepC p own gc ge l x μ ≠ .exn c ν := fun x μ c ν => noX_exn
      cases ea : SW.asgP p xs[i] (SW.wipeL l own) with
      | none =>
        have : stepC p own gc ge l xs[i] μi = .no := by unfold stepC; rw [ea]; rfl
        rw [this] at Pi
        exact Pi.elim
      | some l' =>
        have sr3 : SR K R3 ρi (SW.wipeL l own) (L2.wipe σ own) := (sr.mono (si.trans s3) pi).wipe own
        refine pat_ok (vs := own) m3.sub p xs[i] x _ l' _ _ ea sr3 rx fun σ2 sr2 w2 => ?_
        have P3 := Pi.mono s3 (List.prefix_refl ρi)
        have hst : stepC p own gc ge l xs[i] μi = okX (gc l' μi) fun ok ν => SW.noX (if ok then (do
              let v ← ge l'
              let y ← flat v
              pure (some y)) else pure none : M (Option PV)) ν := by
          unfold stepC
          rw [ea]
          exact noX_bind (gc l') (fun ok => (if ok then (do
              let v ← ge l'
              let y ← flat v
              pure (some y)) else pure none : M (Option PV))) μi
        rw [hst] at P3
        refine ⟨(w2 hp).trans (wipe_idem own σ), upd F D (SetK PP w D S n), R3, ρi, l', μi, m3, sr2, ?_⟩
        cases eg : gc l' μi with
        | no => rw [eg] at P3; exact P3.elim
        | exn c ν => rw [eg] at P3; exact P3.elim
        | ok b μ3 =>
          rw [eg] at P3
          have k3 : Keeps μ2 μ3 := ki.trans (hc l' μi b μ3 eg)
          intro R4 ρ4 H4 b' s4 p4 m4 rb
          have rb : b = b' := rb
          subst rb
          have P4 := P3.mono s4 p4
          cases b with
          | false =>
            rw [if_neg Bool.false_ne_true]
            exact ⟨R4, ρ4, μ3, accP, ks, S, n, (si.trans s3).trans s4, pi.trans p4, m4, ri, hS, hn, k3, P4⟩
          | true =>
            rw [if_pos rfl]
            have P4 : Post F K (VR K) (wx EC W σ) R4 ρ4 ((SW.noX (ge l' >>= fun v => flat v >>= fun y => pure (some y) : M (Option PV)) μ3).bind fun y ν => (SW.compL (stepC p own gc ge l) (xs.drop (i + 1)) ν).bind fun ys τ => (SW.unlockM ls τ).bind fun _ τ => finK (accP ++ SW.consO y ys) τ) Q := P4
            rw [noX_bind] at P4
            refine ⟨upd F D (SetK PP w D S n), R4, ρ4, l', μ3, m4, sr2.mono s4 p4, ?_⟩
            cases ev : ge l' μ3 with
            | no => rw [ev] at P4; exact P4.elim
            | exn c ν => rw [ev] at P4; exact P4.elim
            | ok v μ4 =>
              rw [ev] at P4
              intro R5 ρ5 H5 y s5 p5 m5 rv
              cases v with
              | o n => exact P4.elim
              | v q =>
                have P5 : Post F K (VR K) (wx EC W σ) R5 ρ5 ((SW.compL (stepC p own gc ge l) (xs.drop (i + 1)) μ4).bind fun ys τ => (SW.unlockM ls τ).bind fun _ τ => finK ((accP ++ [q]) ++ ys) τ) Q := by
                  have := P4.mono s5 p5
                  simp only [List.append_assoc, List.singleton_append]
                  exact this
                obtain ⟨kq, hk1, hk2⟩ := post_keys hx P5
                rw [keysOf_app, ri] at hk1
                cases eq : SW.keyOf q with
                | none => rw [show SW.keysOf [q] = none by simp [SW.keysOf, eq]] at hk1; cases hk1
                | some k =>
                  rw [show SW.keysOf [q] = some [k] by simp [SW.keysOf, eq]] at hk1
                  cases hk1
                  have hy : y = kV (skey k) := keyOf_rep eq rv
                  have hmem : S (skey k) = true ↔ k ∈ ks := by
                    rw [hS, inK, List.any_eq_true]
                    constructor
                    · rintro ⟨a, ha, e⟩; exact skey_inj (of_decide_eq_true e) ▸ ha
                    · exact fun h => ⟨k, h, decide_eq_true rfl⟩
                  have hle := onceK_le ks
                  rw [List.length_append, List.length_singleton] at hk2
                  refine ⟨skey k, S, n, hy, (m5.frame_at fun _ _ z => by unfold SetK at z; cases z).1, by have : scanBound = 4096 := rfl; omega, R5, ρ5, μ4, accP ++ [q], ks ++ [k], _, _, ((si.trans s3).trans s4).trans s5, (pi.trans p4).trans p5, m5.frame_put (fun _ _ z => by unfold SetK at z; cases z) _, ?_, fun j => ?_, ?_, k3.trans (he l' μ3 _ μ4 ev), P5⟩
                  · rw [keysOf_app, ri]; simp [SW.keysOf, eq]
                  · rw [hS]
                    unfold inK
                    rw [List.any_append, List.any_cons, List.any_nil, Bool.or_false]
                  · rw [hn]
                    by_cases hm : k ∈ ks
                    · rw [if_pos (hmem.mpr hm), (onceK_push k ks).1 hm]
                    · rw [if_neg (fun z => hm (hmem.mp z)), (onceK_push k ks).2 hm]
    · have hil : i = xs.length := by omega
      subst hil
      refine .inl ⟨stop, ?_⟩
      rw [List.drop_length] at Pi
      have Pi : Post F K (VR K) (wx EC W σ) Ri ρi ((SW.unlockM ls μi).bind fun _ τ => finK (accP ++ []) τ) Q := Pi
      rw [List.append_nil] at Pi
      cases eu : SW.unlockM ls μi with
      | no => rw [eu] at Pi; exact Pi.elim
      | exn c ν => exact absurd eu (unlockM_exn ls μi c ν)
      | ok u τ =>
        rw [eu] at Pi
        obtain ⟨hH, hR, hρ⟩ := mi.frame_at fun _ _ z => by unfold SetK at z; cases z
        refine ⟨D, S, n, rfl, hH, ?_⟩
        have Pi : Post F K (VR K) (wx EC W σ) Ri ρi (finK accP τ) Q := Pi
        unfold finK at Pi
        rw [ri] at Pi
        dsimp only at Pi
        split at Pi
        · rw [hn]; exact Post.here (y := V.int _) Pi (unlock_MR (mi.frame_out hFD) eu) (Rep.int _ : Rep K Ri (.int _) (.int _))
        · exact Pi.elim
section
variable {X : Cx} {EC : Nat → Value} {W : WX} {elt tg iter : Expr} {ifs : List Expr} {scope : Scope} {ownP : List (Str × Nat)} {pos lp cp : Pos} {gi : LF (List PV × Srcs)} {p : Pat} {gc : LF Bool} {ge : LF Val}
/-- len of such a set -/
theorem ev_lenSet (hg : Gl X "len") (hm : X.mg "len" = none) (hc : X.calm = true) (hN : X.N.Nodup) (L : LcOk X EC W elt tg iter ifs scope ownP gi p gc ge) :
    PE X (.Call (.Name "len" lp) [.SetComp elt [⟨tg, iter, ifs, 0⟩] scope pos] [] cp) (liftE X.K EC W (gComp gi (stepC p (ownP.map (·.2)) gc ge) finK)) := by
  refine PE.imp (pe_callB (call_lenK (X := X)) hg hm (bi_boot .len rfl) (pa_cons (pe_scK hc hN L.it L.blk L.tg L.ts L.el L.fs) pa_nil rfl) (by decide) (by decide) rfl rfl) fun σ H Q h => ?_
  exact compS_core (PP := X.prog) (w := X.w) (EC' := EC) (W' := W0) L.ps L.pc L.pe L.th h
end
end SWS
end
section
set_option maxRecDepth 100000
set_option maxHeartbeats 4000000
/-! A set of a list's texts, sorted. -/
namespace SWS
open PySem PySem.Spec PyProof.Rows L2
/-- an empty set's object -/
def bareSet (w : World) : Obj := { cls := .type "set", dict := none, data := .set #[] 0 (.fresh 0 0 (!w.params.followText "set-order")) }
def txt (e : Int × Value) : Str := match e.2 with | .str x _ => x | _ => Str.empty
/-- at a stands a set with just these texts -/
def TSet (P : Program) (w : World) (h : Heap) (a : Addr) (xs : List Str) : Prop :=
  ∃ ob es n t, h.get? a = some ob ∧ ob.ExactSet ∧ ob.data = .set es n t ∧ (∀ e ∈ es.toList, ∃ x k, e = ((strKind P w).hash x, Value.str x k)) ∧ (es.toList.map txt).Perm xs ∧ xs.Nodup ∧
    es.size < scanBound ∧ t.fits es.size = true ∧ Ris t.place.toList ∧ (w.params.followText "set-order" = true ∨ t.led = true)
/-- one more, if it is new -/
def plus (xs : List Str) (x : Str) : List Str := if x ∈ xs then xs else x :: xs
section
variable {P : Program} {w : World} {A : Around} {E : Value → Shared → Prop} {s : Shared} {a : Addr} {xs : List Str}
theorem TSet.keep {h h' : Heap} (T : TSet P w h a xs) (k : ∀ u, h.get? a = some u → h'.get? a = some u) : TSet P w h' a xs := by
  obtain ⟨ob, es, n, t, look, r⟩ := T
  exact ⟨ob, es, n, t, k ob look, r⟩
theorem TSet.bare {h : Heap} (look : h.get? a = some (bareSet w)) : TSet P w h a [] :=
  ⟨_, #[], 0, _, look, ⟨rfl, rfl, rfl⟩, rfl, fun e he => by simp at he, by simp, List.nodup_nil, by decide, by rfl, List.Pairwise.nil, by
    cases z : w.params.followText "set-order"
    · exact .inr rfl
    · exact .inl rfl⟩
theorem texts_elems {es : Array (Int × Value)} (good : ∀ e ∈ es.toList, ∃ x k, e = ((strKind P w).hash x, Value.str x k)) : ElemsOf (strKind P w) es.toList := fun e he => by
  obtain ⟨x, k, rfl⟩ := good e he
  exact ⟨⟨x, strKind_is P w x k, rfl⟩, rfl⟩
theorem text_is {es : Array (Int × Value)} (good : ∀ e ∈ es.toList, ∃ x k, e = ((strKind P w).hash x, Value.str x k)) {e : Int × Value} (he : e ∈ es.toList) (y : Str) : (strKind P w).is y e.2 = true ↔ txt e = y := by
  obtain ⟨x, k, rfl⟩ := good e he
  constructor
  · intro z
    exact (strKind P w).inj _ _ _ (strKind_is P w x k) z
  · rintro rfl
    exact strKind_is P w _ k
/-- what is stored at last -/
theorem TSet.tail {gw : Bool → Sem Unit} (pass : ∀ (b : Bool) (s₁ : Shared) (R : Unit → Shared → Prop), R () s₁ → wpAny (model P w) A (gw b) R E s₁) {ob : Obj} {es : Array (Int × Value)} {n : Nat} {t : SetTable} (look : s.heap.get? a = some ob) (exact_ : ob.ExactSet) (form : ob.data = .set es n t)
    {es1 : Array (Int × Value)} {t1 : SetTable} (good : ∀ e ∈ es1.toList, ∃ x k, e = ((strKind P w).hash x, Value.str x k)) (pm : (es1.toList.map txt).Perm xs) (nd : xs.Nodup) (few : es1.size < scanBound) (fit : t1.fits es1.size = true) (ris : Ris t1.place.toList) (led : w.params.followText "set-order" = true ∨ t1.led = true)
    {dm : Bool} {R : Option Bool → Shared → Prop} (q : ∀ h', Heap.SameBut a s.heap h' → TSet P w h' a xs → R (some true) { s with heap := h' }) :
    wpAny (model P w) A (do
        storeSet a es1 t1
        if (!dm && t1.tooFull) = true then do
            gw (relayAll t1 es1 (SetTable.grown es1.size)).2.2
            storeSet a (relayAll t1 es1 (SetTable.grown es1.size)).1 (relayAll t1 es1 (SetTable.grown es1.size)).2.1
            pure (some true)
          else pure (some true)) R E s := by
  have look1 := store_at (es' := es1) (t' := t1) look form
  have same1 := Heap.SameBut.update s.heap a (Obj.putSet es1 t1)
  refine wpAny_bind (wpAny_storeSet_of look form ?_ (fits_of_scanBound few))
  by_cases c : (!dm && t1.tooFull) = true
  · rw [if_pos c]
    have p2 := relayAll_perm t1 es1 (SetTable.grown es1.size)
    have f2 := relayAll_fits t1 es1 (SetTable.grown es1.size)
    have r2 := relayAll_ris t1 es1 (SetTable.grown es1.size)
    have l2 := relayAll_led t1 es1 (SetTable.grown es1.size)
    generalize relayAll t1 es1 (SetTable.grown es1.size) = Y at p2 f2 r2 l2 ⊢
    obtain ⟨fs, u, gv'⟩ := Y
    dsimp only at p2 f2 r2 l2 ⊢
    have size2 : fs.size = es1.size := by rw [← Array.length_toList, p2.length_eq, Array.length_toList]
    have few2 : fs.size < scanBound := size2 ▸ few
    refine wpAny_bind (pass gv' _ _ ?_)
    refine wpAny_bind (wpAny_storeSet_of look1 rfl ?_ (fits_of_scanBound few2))
    refine wpAny_pure (q _ (same1.trans (Heap.SameBut.update _ a _)) ⟨_, fs, _, u, store_at (es' := fs) (t' := u) look1 rfl, exact_, rfl, fun e he => good e (p2.mem_iff.mp he), (p2.map txt).trans pm, nd, few2, f2, r2, led.imp id fun z => by rw [l2]; exact z⟩)
  · rw [if_neg c]
    exact wpAny_pure (q _ same1 ⟨_, es1, _, t1, look1, exact_, rfl, good, pm, nd, few, fit, ris, led⟩)
theorem TSet.add {x : Str} {k : Tok} {R : Bool → Shared → Prop} (T : TSet P w s.heap a xs) (room : xs.length + 1 < scanBound) (q : ∀ b h', Heap.SameBut a s.heap h' → TSet P w h' a (plus xs x) → R b { s with heap := h' }) :
    wpAny (model P w) A (setAddHashed a (.str x k) ((strKind P w).hash x)) R E s := by
  obtain ⟨ob, es, n, t, look, exact_, form, good, pm, nd, few, fit, ris, led⟩ := T
  have elems := texts_elems good
  have mine := strKind_is P w x k
  have len : es.size = xs.length := by rw [← pm.length_eq, List.length_map, Array.length_toList]
  unfold setAddHashed setAddHashedIn
  refine wpAny_holding (wpAny_bind (wpAny_setState_of look form fit ?_))
  dsimp only
  rw [byScan_of (x := .str x k) rfl few elems, if_pos rfl]
  unfold setAddByScan
  refine wpAny_bind (wpAny_bind (wpAny_rule (wpAny_bind (wpAny_setScan_of mine look form fit elems ?_))))
  cases found : List.findIdx? (fun e => (strKind P w).is x e.2) es.toList with
  | some j =>
    dsimp only
    obtain ⟨hj, yes, _⟩ := List.findIdx?_eq_some_iff_getElem.mp found
    have there : x ∈ xs := pm.mem_iff.mp (List.mem_map.mpr ⟨es.toList[j], List.getElem_mem hj, (text_is good (List.getElem_mem hj) x).mp yes⟩)
    have z := q false s.heap (Heap.SameBut.refl a s.heap)
    unfold plus at z
    rw [if_pos there] at z
    exact wpAny_pure (wpAny_pure (z ⟨ob, es, n, t, look, exact_, form, good, pm, nd, few, fit, ris, led⟩))
  | none =>
    dsimp only
    have notin : x ∉ xs := fun z => by
      obtain ⟨e, he, ez⟩ := List.mem_map.mp (pm.mem_iff.mpr z)
      have no := List.findIdx?_eq_none_iff.mp found e he
      rw [(text_is good he x).mpr ez] at no
      cases no
    unfold plus at q
    simp only [if_neg notin] at q
    have pass : ∀ (b : Bool) {s₁ : Shared} {R : Unit → Shared → Prop}, R () s₁ → wpAny (model P w) A (match b with | true => rule "set.scan.the-table-gave-way" | false => pure ()) R E s₁ := fun b s₁ R z => by
      cases b
      · exact wpAny_pure z
      · exact wpAny_rule z
    have p1 := layNew_perm t es ((strKind P w).hash x) (.str x k)
    have f1 := layNew_fits t es ((strKind P w).hash x) (.str x k)
    have r1 := layNew_ris t es ((strKind P w).hash x) (.str x k) ris
    have l1 := layNew_led t es ((strKind P w).hash x) (.str x k)
    generalize layNew t es ((strKind P w).hash x) (.str x k) = Y at p1 f1 r1 l1 ⊢
    obtain ⟨es1, t1, dm, gv⟩ := Y
    dsimp only at p1 f1 r1 l1 ⊢
    rw [Array.toList_push] at p1
    have p1 := p1.trans (List.perm_append_singleton _ _)
    have good1 : ∀ e ∈ es1.toList, ∃ x k, e = ((strKind P w).hash x, Value.str x k) := fun e he => by
      rcases List.mem_cons.mp (p1.mem_iff.mp he) with z | z
      · exact ⟨x, k, z⟩
      · exact good e z
    have pm1 : (es1.toList.map txt).Perm (x :: xs) := (p1.map txt).trans (List.Perm.cons x pm)
    have size1 : es1.size = es.size + 1 := by rw [← Array.length_toList, p1.length_eq, List.length_cons, Array.length_toList]
    have few1 : es1.size < scanBound := by rw [size1, len]; exact room
    have led1 : w.params.followText "set-order" = true ∨ t1.led = true := led.imp id fun z => by rw [l1]; exact z
    have nd1 : (x :: xs).Nodup := List.nodup_cons.mpr ⟨notin, nd⟩
    refine wpAny_bind (pass gv ?_)
    have on : ∀ h', Heap.SameBut a s.heap h' → TSet P w h' a (x :: xs) → wpAny (model P w) A (pure true) R E { s with heap := h' } := fun h' sb T' => wpAny_pure (q true h' sb T')
    by_cases pl : t1.plain = true
    · rw [if_pos pl]
      refine wpAny_bind ?_
      show wpAny _ _ (pure false) _ _ _
      refine wpAny_pure ?_
      simp only [Bool.false_eq_true, if_false]
      exact TSet.tail (gw := fun b => match b with | true => rule "set.scan.the-table-gave-way" | false => pure ()) (fun b s₁ R z => pass b z) look exact_ form good1 pm1 nd1 few1 (SetTable.fits_plain_off f1) r1 led1 fun h' sb T' => on h' sb T'
    · rw [if_neg pl]
      refine wpAny_bind (wpAny_pure ?_)
      simp only [if_true]
      exact TSet.tail (gw := fun b => match b with | true => rule "set.scan.the-table-gave-way" | false => pure ()) (fun b s₁ R z => pass b z) look exact_ form good1 pm1 nd1 few1 f1 r1 led1 fun h' sb T' => on h' sb T'
/-- the texts of the first items -/
def upTo (ks : List Str) (i : Nat) : List Str := (ks.take i).foldl plus []
theorem plus_len (xs : List Str) (x : Str) : (plus xs x).length ≤ xs.length + 1 := by unfold plus; split <;> simp
theorem fold_len (ks : List Str) : ∀ xs : List Str, (ks.foldl plus xs).length ≤ xs.length + ks.length := by
  induction ks with
  | nil => intro xs; simp
  | cons k ks ih =>
    intro xs
    have := ih (plus xs k)
    have := plus_len xs k
    rw [List.foldl_cons, List.length_cons]; omega
theorem upTo_len (ks : List Str) (i : Nat) : (upTo ks i).length ≤ i := by
  have h1 := fold_len (ks.take i) []
  have h2 := List.length_take_le i ks
  simp only [List.length_nil] at h1
  unfold upTo; omega
theorem upTo_next {ks : List Str} {i : Nat} {x : Str} (h : ks[i]? = some x) : upTo ks (i + 1) = plus (upTo ks i) x := by
  unfold upTo
  rw [List.take_succ, h, List.foldl_append]; rfl
/-- what set.update does, item by item -/
theorem update_texts {I : Addr} {fp wr : List Addr} {G : Array GenState → Array GenState → Prop} {n : Nat} {Pv : Nat → Value → Prop} {St : Nat → Shared → Prop} {Z : Result → Shared → Prop} (W : WalksS P w A.in1 I fp wr G n Pv St)
    (D : Addr) (off : D ∉ fp) (ks : List Str) (hn : n = ks.length) (few : ks.length < 4000) (val : ∀ i v, Pv i v → ∃ x k, ks[i]? = some x ∧ v = .str x k) (g0 : Heap) (dn : g0.get? D = none) (wn : ∀ b ∈ wr, g0.get? b = none) :
    ∀ (m i : Nat) (s : Shared), n - i = m → i ≤ n → St i s → (∀ b u, g0.get? b = some u → s.heap.get? b = some u) → TSet P w s.heap D (upTo ks i) →
      (∀ s', Moved (D :: wr) G s s' → TSet P w s'.heap D (upTo ks n) → (∀ b u, g0.get? b = some u → s'.heap.get? b = some u) → Z (.ok (.ret .none)) s') →
      codeAny (model P w) A (.builtin "set.update.loop" ⟨[.ref D, .ref I], []⟩) Z s := by
  have offw : D ∉ wr := fun z => off (W.sub _ z)
  have more : ∀ b ∈ wr, b ∈ D :: wr := fun b z => List.mem_cons_of_mem _ z
  have old : ∀ {s s' : Shared}, Moved wr G s s' → (∀ b u, g0.get? b = some u → s.heap.get? b = some u) → ∀ b u, g0.get? b = some u → s'.heap.get? b = some u := fun mv z b u e =>
    mv.heap b u (fun y => by have := wn b y; rw [e] at this; cases this) (z b u e)
  intro m
  induction m with
  | zero =>
    intro i s hm hi st z T fin
    obtain rfl : i = n := by omega
    refine codeAny_builtin F.entry_set_update_loop ?_
    rw [Around.under_plainId F.plain_set_update_loop _]
    show wpAny _ A.in1 (pyNext (.ref I) >>= _) _ _ s
    refine wpAny_bind (W.done s _ _ st fun s' mv => ?_)
    exact wpAny_pure (fin s' (mv.mono more) (T.keep fun u e => mv.heap D u offw e) (old mv z))
  | succ m ih =>
    intro i s hm hi st z T fin
    have lt : i < n := by omega
    refine codeAny_builtin F.entry_set_update_loop ?_
    rw [Around.under_plainId F.plain_set_update_loop _]
    show wpAny _ A.in1 (pyNext (.ref I) >>= _) _ _ s
    refine wpAny_bind (W.item i s _ _ lt st fun v s' pv st' mv => ?_)
    obtain ⟨x, k, ex, rfl⟩ := val i v pv
    have z' := old mv z
    have T' : TSet P w s'.heap D (upTo ks i) := T.keep fun u e => mv.heap D u offw e
    show wpAny _ A.in1 (holding [Value.str x k] (setAdd D (.str x k)) >>= _) _ _ s'
    refine wpAny_bind (wpAny_holding ?_)
    unfold setAdd
    refine wpAny_holding (wpAny_bind ((strKind P w).pyHash (k := x) (strKind_is _ _ _ _) ?_))
    refine TSet.add (s := { s' with toks := s'.toks + 1 }) T' (by have := upTo_len ks i; have : scanBound = 4096 := rfl; omega) fun b h' sb T2 => ?_
    have z2 : ∀ b u, g0.get? b = some u → h'.get? b = some u := fun b u e => (sb.2 b fun y => by rw [y, dn] at e; cases e).trans (z' b u e)
    rw [← upTo_next ex] at T2
    refine wpAny_pure ⟨plainId_quiet F.plain_set_update_loop _, ih (i + 1) _ (by omega) lt (W.frame _ s' _ _ st' (Nat.le_succ _) fun b hb u e => ?_) z2 T2 fun s'' mv2 T3 z3 => ?_⟩
    · exact (sb.2 b fun y => off (y ▸ hb)).trans e
    · exact fin s'' (Moved.trans W.gtrans ((mv.mono more).then_heap (Nat.le_succ _) fun b u hb e => (sb.2 b fun y => hb (by rw [y]; exact List.mem_cons_self)).trans e) mv2) T3 z3
theorem texts_at : ∀ {vs : List Value} {xs : List Str}, StrsAre vs xs → ∀ (i : Nat) (v : Value), vs[i]? = some v → ∃ x k, xs[i]? = some x ∧ v = .str x k
  | _, _, .nil, i, v, h => by simp at h
  | _, _, .cons x k r, 0, v, h => by simp at h; exact ⟨x, k, rfl, h.symm⟩
  | _, _, .cons x k r, i + 1, v, h => by simpa using texts_at r i v (by simpa using h)
/-- set(a list of texts) -/
theorem call_set_texts {l : Addr} {items : Array Value} {ks : List Str} {R : Value → Shared → Prop} (calm : A.handled = none) (isl : s.heap.IsList l items) (its : StrsAre items.toList ks) (few : ks.length < 4000)
    (q : ∀ (h' : Heap) (tk : Nat), TSet P w h' s.heap.objs.size (upTo ks ks.length) → (∀ b u, s.heap.get? b = some u → h'.get? b = some u) → R (.ref s.heap.objs.size) { s with heap := h', toks := tk }) :
    wpAny (model P w) A (call (.type "set") [.ref l]) R E s := by
  have size : items.size = ks.length := by rw [← StrsAre.len_eq its, Array.length_toList]
  obtain ⟨c, tl, mro⟩ := F.called_set.mro
  have a1 := F.called_set.made
  have a2 := F.called_set.sub
  have a3 := F.called_set.notType
  have a4 := F.called_set.canCreate
  have a5 := F.typeCall_set_1 (.ref l)
  refine wpAny_call (codeAny_of_tree ?_)
  show wpAny _ _ (callAny (.type "set") _) _ _ _
  refine wpAny_pure ⟨Code.quiet_builtin _ (by decide +kernel), codeAny_builtin F.entry_type_call ?_⟩
  rw [Around.under_plain (weight_type_call_type "set" [.ref l] []) rfl]
  repeat (any_goals (first | assumption | wp_step))
  refine codeAny_mono (code_set_led1 (.ref l) (E := E) (Q₁ := fun v s₁ => v = .ref s.heap.objs.size ∧ s₁ = { s with heap := s.heap.push (bareSet w) }) ⟨rfl, rfl⟩) fun r s₁ hr => ?_
  have here : (s.heap.push (bareSet w)).get? s.heap.objs.size = some (bareSet w) := Heap.get?_push_size _ rfl
  match r, hr with
  | .error e, hr => exact hr
  | .ok (.ret v), hr =>
    obtain ⟨rfl, rfl⟩ := hr
    have ty : Shared.TypeIs { s with heap := s.heap.push (bareSet w) } (.ref s.heap.objs.size) "set" := ⟨_, here, rfl⟩
    have b1 := F.called_set.init.lookup
    have b2 := F.called_set.init.bind (.ref s.heap.objs.size)
    repeat (any_goals (first | assumption | wp_step))
    refine codeAny_mono (codeAny_call_builtin (R := wants (fun v s₂ => v = .none ∧ ∃ h' tk, s₂ = { s with heap := h', toks := tk } ∧ TSet P w h' s.heap.objs.size (upTo ks ks.length) ∧ ∀ b u, s.heap.get? b = some u → h'.get? b = some u) E) F.called_set.init.plain F.entry_set_init (check_set_init_1 ty ?_)) fun r₂ s₂ hr₂ => ?_
    · obtain ⟨ol, look, cl, nl, form⟩ := isl
      obtain ⟨oc, od, ox, os⟩ := ol
      simp only at cl form
      subst cl; subst form
      have look1 : (s.heap.push (bareSet w)).get? l = some { cls := .type "list", dict := od, data := .seq items nl, slots := os } := Heap.get?_push_of_some _ look
      have isl1 : (s.heap.push (bareSet w)).IsList l items := ⟨_, look1, rfl, nl, rfl⟩
      have c1 := F.sub_list_set
      have c2 := F.sub_list_frozenset
      have c3 : (Value.type "list" == Value.type "dict") = false := by decide
      unfold Builtin.«set.__init__» noKeywords Builtin.Frozenset.updateFrom
      generalize hPI : pyIter = PI
      wp_walk
      subst hPI
      refine wpAny_pyIter_list isl1 (wpAny_bind (wpAny_runValue ?_))
      have below : l < s.heap.objs.size := Heap.lt_size look
      have calm3 : A.in1.in1.in1.handled = none := by simp [calm]
      have z1 : (s.heap.push (bareSet w)).objs.size = s.heap.objs.size + 1 := Heap.size_push ..
      have apart : l ≠ (s.heap.push (bareSet w)).objs.size := by rw [z1]; exact Nat.ne_of_lt (Nat.lt_succ_of_lt below)
      have off : s.heap.objs.size ∉ [(s.heap.push (bareSet w)).objs.size, l] := by
        rw [z1]
        intro y
        rcases List.mem_cons.mp y with y | y
        · exact Nat.succ_ne_self _ y.symm
        · exact Nat.ne_of_gt below (List.mem_singleton.mp y)
      have gone : ∀ b, s.heap.objs.size ≤ b → s.heap.get? b = none := fun b hb => by
        cases y : s.heap.get? b with
        | none => rfl
        | some u => exact absurd (Heap.lt_size y) (Nat.not_lt_of_le hb)
      refine update_texts ((Walks.list calm3 _ l apart items).toS) s.heap.objs.size off ks size few (fun i v hv => texts_at its i v (by rw [Array.getElem?_toList]; exact hv)) s.heap (gone _ (Nat.le_refl _)) (fun b hb => gone b (by rw [List.mem_singleton.mp hb, z1]; omega)) (items.size - 0) 0 _ (by omega) (Nat.zero_le _)
        ⟨⟨_, Heap.get?_push_size _ rfl, rfl, rfl⟩, (isl1.push _)⟩ (fun b u e => Heap.get?_push_of_some _ (Heap.get?_push_of_some _ e)) (TSet.bare (Heap.get?_push_of_some _ here)) fun s' mv T z => ?_
      obtain ⟨h', g', d', tk', os'⟩ := s'
      obtain rfl : g' = s.gens := mv.gens
      obtain rfl : d' = s.drawn := mv.drawn
      obtain rfl : os' = s.os := mv.os
      rw [size] at T
      show wpAny _ _ _ _ _ _
      refine wpAny_pure ?_
      show wpAny _ _ (ret Value.none) _ _ _
      exact wpAny_pure ⟨rfl, h', tk', rfl, T, z⟩
    · match r₂, hr₂ with
      | .error e, hr₂ => exact hr₂
      | .ok (.ret v), hr₂ =>
        obtain ⟨rfl, h', tk, rfl, T, z⟩ := hr₂
        repeat (any_goals (first | assumption | wp_step))
        exact q _ _ T z
end
end SWS
end
section
set_option maxRecDepth 100000
/-! Plain rules of the evaluator, each at a store. -/
namespace SW
section
variable {F : Type} {T : F → FD F} {C : Mode → Nat → F → List Val → M Val} {b : Nat} {l : Loc} {μ : Mem}
theorem call_step (k : Nat) (m : Mode) (b : Nat) (f : F) (vs : List Val) (μ : Mem) : callN T (k + 1) m b f vs μ = runF T (callN T k) m b f vs μ := rfl
theorem call_val {k : Nat} {f : F} {vs : List Val} {np nl : Nat} {body : List (S F)} (hT : T f = ⟨np, nl, body⟩) (hl : vs.length = np) : callN T (k + 1) .val b f vs μ = endF .val μ.length (evB (callN T k) μ.length body (vs.map some ++ List.replicate (nl - np) none) μ) := by
  show runF T (callN T k) .val b f vs μ = _
  unfold runF
  rw [hT, if_pos hl]
  rfl
theorem endF_ret (c : Nat) (l : Loc) (p : PV) (μ : Mem) : endF .val c (.ok (l, .ret (.v p)) μ) = .ok (.v p) (μ.take c) := rfl
theorem endF_nx (c : Nat) (l : Loc) (μ : Mem) : endF .val c (.ok (l, .nx) μ) = .ok (.v .non) (μ.take c) := rfl
theorem endF_new {c n : Nat} {l : Loc} {μ : Mem} {xs : List PV} (h : ¬ n < c) (e : μ[n]? = some (.lst xs)) : endF .val c (.ok (l, .ret (.o n)) μ) = .ok (.v (.lst xs)) (μ.take c) := by
  show (if n < c then _ else _) = _
  rw [if_neg h, e]
theorem sB_nil (l : Loc) (μ : Mem) : evB C b ([] : List (S F)) l μ = .ok (l, .nx) μ := by rw [evB]; rfl
/-- what goes on behind a statement -/
def andB (C : Mode → Nat → F → List Val → M Val) (b : Nat) (r : List (S F)) : Loc × Fl → Mem → Res (Loc × Fl) := fun z ν => match z.2 with
      | .nx => evB C b r z.1 ν
      | .ret v => .ok (z.1, .ret v) ν
theorem andB_nx (r : List (S F)) (l : Loc) (ν : Mem) : andB C b r (l, .nx) ν = evB C b r l ν := rfl
theorem andB_ret (r : List (S F)) (l : Loc) (v : Val) (ν : Mem) : andB C b r (l, .ret v) ν = .ok (l, .ret v) ν := rfl
theorem sB_cons (s : S F) (r : List (S F)) (l : Loc) (μ : Mem) : evB C b (s :: r) l μ = (evS C b s l μ).bind (andB C b r) := by
  rw [evB]
  show (evS C b s l μ).bind _ = _
  congr 1
  funext z ν
  obtain ⟨l', fl⟩ := z
  cases fl <;> rfl
/-! ### expressions -/
theorem e_var (i : Nat) : evE C b (.var i) l μ = match l[i]? with | some (some v) => .ok v μ | _ => .no := by
  rw [evE]
  cases l[i]? with
  | none => rfl
  | some o => cases o <;> rfl
theorem e_int (i : Int) : evE C b (.int i) l μ = .ok (.v (.int i)) μ := by rw [evE]; rfl
theorem e_str (i : List Nat) : evE C b (.str i) l μ = .ok (.v (.str i)) μ := by rw [evE]; rfl
theorem e_bl (i : Bool) : evE C b (.bl i) l μ = .ok (.v (.bl i)) μ := by rw [evE]; rfl
theorem e_non : evE C b .non l μ = .ok (.v .non) μ := by rw [evE]; rfl
theorem e_cst (p : PV) : evE C b (.cst p) l μ = .ok (.v p) μ := by rw [evE]; rfl
def binV (o : Op2) (x y : Val) : M Val := do
    let p ← view x
    let q ← view y
    let r ← ofO (bin2 o p q)
    pure (Val.v r)
theorem binV_v (o : Op2) (p q : PV) (μ : Mem) : binV o (.v p) (.v q) μ = match bin2 o p q with | some r => .ok (.v r) μ | none => .no := by
  show (ofO (bin2 o p q) μ).bind _ = _
  cases bin2 o p q <;> rfl
theorem e_bin (o : Op2) (x y : E F) : evE C b (.bin o x y) l μ = (evE C b x l μ).bind fun p ν => (evE C b y l ν).bind fun q ξ => binV o p q ξ := by rw [evE]; rfl
theorem e_neg (x : E F) : evE C b (.neg x) l μ = (evE C b x l μ).bind fun p ν => match p with | .v (.int i) => .ok (.v (.int (-i))) ν | _ => .no := by
  rw [evE]
  show (evE C b x l μ).bind _ = _
  congr 1; funext p ν
  cases p with
  | v p => cases p <;> rfl
  | o n => rfl
theorem e_cmp (o : CmpO) (x y : E F) : evE C b (.cmp o x y) l μ = (evE C b x l μ).bind fun p ν => (evE C b y l ν).bind fun q ξ => cmpV o p q ξ := by rw [evE]; rfl
theorem cmpV_v (o : CmpO) (p q : PV) (μ : Mem) : cmpV o (.v p) (.v q) μ = match cmp2v o p q with | some r => .ok (.v (.bl r)) μ | none => .no := by
  show (ofO (cmp2v o p q) μ).bind _ = _
  cases cmp2v o p q <;> rfl
def thenC (f : Mem → Res Val) : Val → Mem → Res Val := fun r ξ => match r with
      | .v (.bl true) => f ξ
      | .v (.bl false) => .ok (.v (.bl false)) ξ
      | _ => .no
def elseC (f : Mem → Res Val) : Val → Mem → Res Val := fun r ξ => match r with
      | .v (.bl true) => .ok (.v (.bl true)) ξ
      | .v (.bl false) => f ξ
      | _ => .no
theorem thenC_b (f : Mem → Res Val) (x : Bool) (ξ : Mem) : thenC f (.v (.bl x)) ξ = if x then f ξ else .ok (.v (.bl false)) ξ := by cases x <;> rfl
theorem elseC_b (f : Mem → Res Val) (x : Bool) (ξ : Mem) : elseC f (.v (.bl x)) ξ = if x then .ok (.v (.bl true)) ξ else f ξ := by cases x <;> rfl
theorem e_cmp2 (o o2 : CmpO) (x y z : E F) : evE C b (.cmp2 o o2 x y z) l μ = (evE C b x l μ).bind fun p ν => (evE C b y l ν).bind fun q ξ => (cmpV o p q ξ).bind (thenC fun ξ => (evE C b z l ξ).bind fun r ζ => cmpV o2 q r ζ) := by
  rw [evE]
  show (evE C b x l μ).bind _ = _
  congr 1; funext p ν
  show (evE C b y l ν).bind _ = _
  congr 1; funext q ξ
  show (cmpV o p q ξ).bind _ = _
  congr 1; funext r ζ
  cases r with
  | v p => cases p <;> first | rfl | (rename_i c; cases c <;> rfl)
  | o n => rfl
theorem e_and (x y : E F) : evE C b (.and x y) l μ = (evE C b x l μ).bind (thenC fun ξ => evE C b y l ξ) := by
  rw [evE]
  show (evE C b x l μ).bind _ = _
  congr 1; funext p ν
  cases p with
  | v p => cases p <;> first | rfl | (rename_i c; cases c <;> rfl)
  | o n => rfl
theorem e_or (x y : E F) : evE C b (.or x y) l μ = (evE C b x l μ).bind (elseC fun ξ => evE C b y l ξ) := by
  rw [evE]
  show (evE C b x l μ).bind _ = _
  congr 1; funext p ν
  cases p with
  | v p => cases p <;> first | rfl | (rename_i c; cases c <;> rfl)
  | o n => rfl
theorem e_not (x : E F) : evE C b (.not x) l μ = (evE C b x l μ).bind fun p ν => match p with | .v (.bl c) => .ok (.v (.bl (!c))) ν | _ => .no := by
  rw [evE]
  show (evE C b x l μ).bind _ = _
  congr 1; funext p ν
  cases p with
  | v p => cases p <;> rfl
  | o n => rfl
theorem e_ite (c : Cn F) (x y : E F) : evE C b (.ite c x y) l μ = (evT C b c l μ).bind fun q ν => if q then evE C b x l ν else evE C b y l ν := by
  rw [evE]
  show (evT C b c l μ).bind _ = _
  congr 1; funext p ν
  cases p <;> rfl
theorem e_tup (es : List (E F)) : evE C b (.tup es) l μ = (evEs C b es l μ).bind fun vs ν => (flats vs ν).bind fun ps ξ => .ok (.v (.tup ps)) ξ := by rw [evE]; rfl
theorem e_lst (es : List (E F)) : evE C b (.lst es) l μ = (evEs C b es l μ).bind fun vs ν => (flats vs ν).bind fun ps ξ => .ok (.v (.lst ps)) ξ := by rw [evE]; rfl
theorem es_nil' : evEs C b ([] : List (E F)) l μ = .ok [] μ := by rw [evEs]; rfl
theorem es_cons' (e : E F) (es : List (E F)) : evEs C b (e :: es) l μ = (evE C b e l μ).bind fun v ν => (evEs C b es l ν).bind fun vs ξ => .ok (v :: vs) ξ := by rw [evEs]; rfl
theorem flats_nil (μ : Mem) : flats [] μ = .ok [] μ := rfl
theorem flats_cons (p : PV) (vs : List Val) (μ : Mem) : flats (.v p :: vs) μ = (flats vs μ).bind fun ps ν => .ok (p :: ps) ν := rfl
/-- a look at a place -/
def idxV (x y : Val) : M Val := do
    let q ← flat y
    fun μ => match dicAt x μ with
      | some kvs => match keyOf q with
        | some k => match dget kvs k with
          | some v => .ok (Val.v v) μ
          | none => .no
        | none => .no
      | none => (do
        let p ← view x
        match p, q with
          | .tup xs, .int i => do
            let r ← ofO (atN xs i)
            pure (Val.v r)
          | .lst xs, .int i => do
            let r ← ofO (atN xs i)
            pure (Val.v r)
          | .str xs, .int i => do
            let r ← ofO (atS xs i)
            pure (Val.v r)
          | _, _ => no) μ
theorem e_idx (x y : E F) : evE C b (.idx x y) l μ = (evE C b x l μ).bind fun p ν => (evE C b y l ν).bind fun q ξ => idxV p q ξ := by rw [evE]; rfl
theorem idxV_t (xs : List PV) (i : Int) (μ : Mem) : idxV (.v (.tup xs)) (.v (.int i)) μ = match atN xs i with | some r => .ok (.v r) μ | none => .no := by
  show (ofO (atN xs i) μ).bind _ = _
  cases atN xs i <;> rfl
theorem idxV_l (xs : List PV) (i : Int) (μ : Mem) : idxV (.v (.lst xs)) (.v (.int i)) μ = match atN xs i with | some r => .ok (.v r) μ | none => .no := by
  show (ofO (atN xs i) μ).bind _ = _
  cases atN xs i <;> rfl
theorem idxV_s (xs : List Nat) (i : Int) (μ : Mem) : idxV (.v (.str xs)) (.v (.int i)) μ = match atS xs i with | some r => .ok (.v r) μ | none => .no := by
  show (ofO (atS xs i) μ).bind _ = _
  cases atS xs i <;> rfl
theorem atN_nat {α : Type} (xs : List α) (n : Nat) : atN xs (n : Int) = xs[n]? := by
  unfold atN; rw [if_pos (Int.natCast_nonneg n)]; rfl
theorem at0 {α : Type} (xs : List α) : atN xs 0 = xs[0]? := rfl
theorem at1 {α : Type} (xs : List α) : atN xs 1 = xs[1]? := rfl
theorem at2 {α : Type} (xs : List α) : atN xs 2 = xs[2]? := rfl
theorem at3 {α : Type} (xs : List α) : atN xs 3 = xs[3]? := rfl
theorem at4 {α : Type} (xs : List α) : atN xs 4 = xs[4]? := rfl
theorem at5 {α : Type} (xs : List α) : atN xs 5 = xs[5]? := rfl
theorem o_none : evO C b (none : Option (E F)) l μ = .ok none μ := by rw [evO]; rfl
theorem o_some (e : E F) : evO C b (some e) l μ = (evE C b e l μ).bind fun v ν => optI (some v) ν := by rw [evO]; rfl
theorem optI_int (i : Int) (μ : Mem) : optI (some (.v (.int i))) μ = .ok (some i) μ := rfl
def slcV (x : Val) (i j : Option Int) : M Val := do
    let p ← view x
    match p with
      | .tup xs => pure (Val.v (.tup (cut xs i j)))
      | .lst xs => pure (Val.v (.lst (cut xs i j)))
      | .str xs => if okN xs.length then pure (Val.v (.str (cut xs i j))) else no
      | _ => no
theorem e_slc (x : E F) (lo hi : Option (E F)) : evE C b (.slc x lo hi) l μ = (evE C b x l μ).bind fun p ν => (evO C b lo l ν).bind fun i ξ => (evO C b hi l ξ).bind fun j ζ => slcV p i j ζ := by rw [evE]; rfl
theorem slcV_t (xs : List PV) (i j : Option Int) (μ : Mem) : slcV (.v (.tup xs)) i j μ = .ok (.v (.tup (cut xs i j))) μ := rfl
theorem slcV_l (xs : List PV) (i j : Option Int) (μ : Mem) : slcV (.v (.lst xs)) i j μ = .ok (.v (.lst (cut xs i j))) μ := rfl
theorem e_call (m : Mode) (f : F) (es : List (E F)) : evE C b (.call m f es) l μ = (evEs C b es l μ).bind fun vs ν => C m b f vs ν := by rw [evE]; rfl
theorem e_bi (o : Bi) (es : List (E F)) : evE C b (.bi o es) l μ = (evEs C b es l μ).bind fun vs ν => biV o vs ν := by rw [evE]; rfl
theorem biKey (r : Option PV) (μ : Mem) : ((ofO r) μ).bind (fun r ν => (.ok (Val.v r) ν : Res Val)) = match r with | some r => .ok (.v r) μ | none => .no := by cases r <;> rfl
theorem biV1 (o : Bi) (p : PV) (μ : Mem) : biV o [.v p] μ = match bi1 o p with | some r => .ok (.v r) μ | none => .no := by
  cases o with
  | isI t => exact biKey (bi1 (.isI t) p) μ
  | len => exact biKey (bi1 .len p) μ
  | max2 => exact biKey (bi1 .max2 p) μ
  | min2 => exact biKey (bi1 .min2 p) μ
  | max1 => exact biKey (bi1 .max1 p) μ
  | min1 => exact biKey (bi1 .min1 p) μ
  | sum => exact biKey (bi1 .sum p) μ
  | all => exact biKey (bi1 .all p) μ
  | any => exact biKey (bi1 .any p) μ
  | tuple => exact biKey (bi1 .tuple p) μ
  | int => exact biKey (bi1 .int p) μ
  | str => exact biKey (bi1 .str p) μ
  | sorted => exact biKey (bi1 .sorted p) μ
  | sortedSet => exact biKey (bi1 .sortedSet p) μ
  | listRange => exact biKey (bi1 .listRange p) μ
  | listOf => exact biKey (bi1 .listOf p) μ
  | dictCopy => exact biKey (bi1 .dictCopy p) μ
theorem biV2 (o : Bi) (p q : PV) (μ : Mem) : biV o [.v p, .v q] μ = match bi2 o p q with | some r => .ok (.v r) μ | none => .no := by
  cases o with
  | isI t => exact biKey (bi2 (.isI t) p q) μ
  | len => exact biKey (bi2 .len p q) μ
  | max2 => exact biKey (bi2 .max2 p q) μ
  | min2 => exact biKey (bi2 .min2 p q) μ
  | max1 => exact biKey (bi2 .max1 p q) μ
  | min1 => exact biKey (bi2 .min1 p q) μ
  | sum => exact biKey (bi2 .sum p q) μ
  | all => exact biKey (bi2 .all p q) μ
  | any => exact biKey (bi2 .any p q) μ
  | tuple => exact biKey (bi2 .tuple p q) μ
  | int => exact biKey (bi2 .int p q) μ
  | str => exact biKey (bi2 .str p q) μ
  | sorted => exact biKey (bi2 .sorted p q) μ
  | sortedSet => exact biKey (bi2 .sortedSet p q) μ
  | listRange => exact biKey (bi2 .listRange p q) μ
  | listOf => exact biKey (bi2 .listOf p q) μ
  | dictCopy => exact biKey (bi2 .dictCopy p q) μ
theorem e_me (m : Me) (o : E F) (es : List (E F)) : evE C b (.me m o es) l μ = (evE C b o l μ).bind fun x ν => (kindM m x ν).bind fun _ ξ => (evEs C b es l ξ).bind fun vs ζ => meV m x vs ζ := by rw [evE]; rfl
/-! ### tests -/
theorem t_and (x y : Cn F) : evT C b (.and x y) l μ = (evT C b x l μ).bind fun q ν => if q then evT C b y l ν else .ok false ν := by
  rw [evT]
  show (evT C b x l μ).bind _ = _
  congr 1; funext p ν
  cases p <;> rfl
theorem t_or (x y : Cn F) : evT C b (.or x y) l μ = (evT C b x l μ).bind fun q ν => if q then .ok true ν else evT C b y l ν := by
  rw [evT]
  show (evT C b x l μ).bind _ = _
  congr 1; funext p ν
  cases p <;> rfl
theorem t_not (x : Cn F) : evT C b (.not x) l μ = (evT C b x l μ).bind fun q ν => .ok (!q) ν := by rw [evT]; rfl
theorem t_e (e : E F) : evT C b (.e e) l μ = (evE C b e l μ).bind fun v ν => truth v ν := by rw [evT]; rfl
theorem truth_b (c : Bool) (μ : Mem) : truth (.v (.bl c)) μ = .ok c μ := rfl
/-! ### statements -/
theorem lift2_some (l : Loc) (μ : Mem) : lift2 (some l) μ = .ok (l, .nx) μ := rfl
theorem s_asg (p : Pat) (e : E F) : evS C b (.asg p e) l μ = (evE C b e l μ).bind fun v ν => lift2 (asgV p v l) ν := by rw [evS]; rfl
theorem s_par (is : List Nat) (es : List (E F)) : evS C b (.par is es) l μ = (evEs C b es l μ).bind fun vs ν => lift2 (setAll is vs l) ν := by rw [evS]; rfl
theorem s_aug (i : Nat) (o : Op2) (e : E F) : evS C b (.aug i o e) l μ = (evE C b (.var i) l μ).bind fun x ν => (evE C b e l ν).bind fun y ξ => augV o i l x y ξ := by rw [evS]; rfl
theorem s_expr (e : E F) : evS C b (.expr e) l μ = (evE C b e l μ).bind fun _ ν => .ok (l, .nx) ν := by rw [evS]; rfl
theorem s_ret (e : E F) : evS C b (.ret e) l μ = (evE C b e l μ).bind fun v ν => .ok (l, .ret v) ν := by rw [evS]; rfl
theorem s_ite (c : Cn F) (x y : List (S F)) : evS C b (.ite c x y) l μ = (evT C b c l μ).bind fun q ν => if q then evB C b x l ν else evB C b y l ν := by
  rw [evS]
  show (evT C b c l μ).bind _ = _
  congr 1; funext p ν
  cases p <;> rfl
/-! ### along things -/
theorem q_eq_i (i j : Int) : cmp2v .eq (.int i) (.int j) = some (decide (i = j)) := rfl
theorem q_ne_i (i j : Int) : cmp2v .ne (.int i) (.int j) = some (!decide (i = j)) := rfl
theorem q_eq_s (i j : List Nat) : cmp2v .eq (.str i) (.str j) = some (decide (i = j)) := rfl
theorem q_ne_s (i j : List Nat) : cmp2v .ne (.str i) (.str j) = some (!decide (i = j)) := rfl
theorem q_lt (i j : Int) : cmp2v .lt (.int i) (.int j) = some (decide (i < j)) := rfl
theorem q_le (i j : Int) : cmp2v .le (.int i) (.int j) = some (decide (i ≤ j)) := rfl
theorem q_gt (i j : Int) : cmp2v .gt (.int i) (.int j) = some (decide (j < i)) := rfl
theorem q_ge (i j : Int) : cmp2v .ge (.int i) (.int j) = some (decide (j ≤ i)) := rfl
theorem q_in_c (c : Nat) (t : List Nat) : cmp2v .isin (.str [c]) (.str t) = some (t.contains c) := rfl
theorem q_in_t (s : List Nat) (ys : List PV) : cmp2v .isin (.str s) (.tup ys) = some (anyEq (.str s) ys) := rfl
theorem q_eq_l (xs : List PV) : cmp2v .eq (.lst xs) (.lst []) = some xs.isEmpty := by
  have : eqv (.lst xs) (.lst []) = xs.isEmpty := by cases xs <;> rfl
  show (if _ then _ else _) = _
  rw [this, if_pos (by rw [show dle 40 (.lst []) = true from rfl, Bool.or_true])]
theorem q_ne_l (xs : List PV) : cmp2v .ne (.lst xs) (.lst []) = some (!xs.isEmpty) := by
  have : eqv (.lst xs) (.lst []) = xs.isEmpty := by cases xs <;> rfl
  show (if _ then _ else _) = _
  rw [this, if_pos (by rw [show dle 40 (.lst []) = true from rfl, Bool.or_true])]
theorem q_eq_t (xs : List PV) : cmp2v .eq (.tup xs) (.tup []) = some xs.isEmpty := by
  have : eqv (.tup xs) (.tup []) = xs.isEmpty := by cases xs <;> rfl
  show (if _ then _ else _) = _
  rw [this, if_pos (by rw [show dle 40 (.tup []) = true from rfl, Bool.or_true])]
theorem q_ne_t (xs : List PV) : cmp2v .ne (.tup xs) (.tup []) = some (!xs.isEmpty) := by
  have : eqv (.tup xs) (.tup []) = xs.isEmpty := by cases xs <;> rfl
  show (if _ then _ else _) = _
  rw [this, if_pos (by rw [show dle 40 (.tup []) = true from rfl, Bool.or_true])]
theorem thenC_p (x y : Bool) (ξ : Mem) : thenC (fun ξ => .ok (.v (.bl y)) ξ) (.v (.bl x)) ξ = .ok (.v (.bl (x && y))) ξ := by cases x <;> rfl
theorem elseC_p (x y : Bool) (ξ : Mem) : elseC (fun ξ => .ok (.v (.bl y)) ξ) (.v (.bl x)) ξ = .ok (.v (.bl (x || y))) ξ := by cases x <;> rfl
theorem ite_and (x y : Bool) (ξ : Mem) : (if x = true then Res.ok (Val.v (.bl y)) ξ else Res.ok (Val.v (.bl false)) ξ) = .ok (.v (.bl (x && y))) ξ := by cases x <;> rfl
theorem ite_or (x y : Bool) (ξ : Mem) : (if x = true then Res.ok (Val.v (.bl true)) ξ else Res.ok (Val.v (.bl y)) ξ) = .ok (.v (.bl (x || y))) ξ := by cases x <;> rfl
theorem ite_andT (x y : Bool) (ξ : Mem) : (if x = true then Res.ok y ξ else Res.ok false ξ) = .ok (x && y) ξ := by cases x <;> rfl
theorem ite_orT (x y : Bool) (ξ : Mem) : (if x = true then Res.ok true ξ else Res.ok y ξ) = .ok (x || y) ξ := by cases x <;> rfl
theorem c_nil : evC C b ([] : List (Cn F)) l μ = .ok true μ := by rw [evC]; rfl
theorem c_cons (t : Cn F) (ts : List (Cn F)) : evC C b (t :: ts) l μ = (evT C b t l μ).bind fun q ν => if q then evC C b ts l ν else .ok false ν := by
  rw [evC]
  show (evT C b t l μ).bind _ = _
  congr 1; funext p ν
  cases p <;> rfl
/-- one item of a comprehension -/
def stepX (C : Mode → Nat → F → List Val → M Val) (b : Nat) (elt : E F) (p : Pat) (cs : List (Cn F)) (own : List Nat) (l : Loc) (x : PV) : M (Option PV) := noX (match asgP p x (wipeL l own) with
      | some l' => do
        let ok ← evC C b cs l'
        if ok then (do
          let v ← evE C b elt l'
          let y ← flat v
          pure (some y))
        else pure none
      | none => no)
theorem noX_ok {α : Type} {x : M α} {a : α} {ν : Mem} (h : x μ = .ok a ν) : noX x μ = .ok a ν := by
  unfold noX; rw [h]
theorem stepX_at {elt : E F} {p : Pat} {cs : List (Cn F)} {own : List Nat} {x : PV} {l' : Loc} {c : Bool} {y : PV} (h1 : asgP p x (wipeL l own) = some l') (h2 : evC C b cs l' μ = .ok c μ) (h3 : c = true → evE C b elt l' μ = .ok (.v y) μ) :
    stepX C b elt p cs own l x μ = .ok (if c then some y else none) μ := by
  unfold stepX
  rw [h1]
  apply noX_ok
  show (evC C b cs l' μ).bind (fun ok ν => (if ok then (do
          let v ← evE C b elt l'
          let y ← flat v
          pure (some y))
        else pure none : M (Option PV)) ν) = _
  rw [h2]
  cases c with
  | false => rfl
  | true =>
    show (evE C b elt l' μ).bind (fun v ν => (do
          let y ← flat v
          pure (some y) : M (Option PV)) ν) = _
    rw [h3 rfl]
    rfl
theorem e_comp (elt : E F) (p : Pat) (it : It F) (cs : List (Cn F)) (own : List Nat) : evE C b (.comp elt p it cs own) l μ = (evI C b it l μ).bind fun r ν => (lockM r.2 ν).bind fun ls ξ => (compL (stepX C b elt p cs own l) r.1 ξ).bind fun ys ζ => (unlockM ls ζ).bind fun _ ω => if okN ys.length then .ok (.v (.lst ys)) ω else .no := by
  rw [evE]
  show (evI C b it l μ).bind _ = _
  congr 1; funext r ν
  show (lockM r.2 ν).bind _ = _
  congr 1; funext ls ξ
  show (compL _ r.1 ξ).bind _ = _
  congr 1; funext ys ζ
  show (unlockM ls ζ).bind _ = _
  congr 1; funext u ω
  cases okN ys.length <;> rfl
theorem e_lenSet (elt : E F) (p : Pat) (it : It F) (cs : List (Cn F)) (own : List Nat) : evE C b (.lenSet elt p it cs own) l μ = (evI C b it l μ).bind fun r ν => (lockM r.2 ν).bind fun ls ξ => (compL (stepX C b elt p cs own l) r.1 ξ).bind fun ys ζ => (unlockM ls ζ).bind fun _ ω => match keysOf ys with
      | some ks => if Nat.ble ks.length 4000 then .ok (.v (.int (onceK ks).length)) ω else .no
      | none => .no := by
  rw [evE]
  show (evI C b it l μ).bind _ = _
  congr 1; funext r ν
  show (lockM r.2 ν).bind _ = _
  congr 1; funext ls ξ
  show (compL _ r.1 ξ).bind _ = _
  congr 1; funext ys ζ
  show (unlockM ls ζ).bind _ = _
  congr 1; funext u ω
  cases keysOf ys with
  | none => rfl
  | some ks => cases h : Nat.ble ks.length 4000 <;> simp only [h] <;> rfl
theorem compL_map {α : Type} {f : PV → M (Option PV)} (g : α → PV) (h : α → Option PV) : ∀ (xs : List α), (∀ x ∈ xs, f (g x) μ = .ok (h x) μ) → compL f (xs.map g) μ = .ok (xs.filterMap h) μ
  | [], _ => rfl
  | x :: xs, H => by
    show (f (g x) μ).bind (fun y ν => (compL f (xs.map g) ν).bind fun ys ξ => Res.ok (consO y ys) ξ) = _
    rw [H x (by simp)]
    show (compL f (xs.map g) μ).bind (fun ys ξ => Res.ok (consO (h x) ys) ξ) = _
    rw [compL_map g h xs fun y hy => H y (by simp [hy])]
    cases hx : h x <;> simp [hx, consO]
theorem compL_filter {α : Type} {f : PV → M (Option PV)} (g : α → PV) (c : α → Bool) (y : α → PV) (xs : List α) (H : ∀ x ∈ xs, f (g x) μ = .ok (if c x = true then some (y x) else none) μ) : compL f (xs.map g) μ = .ok ((xs.filter c).map y) μ := by
  rw [compL_map g (fun x => if c x = true then some (y x) else none) xs H]
  congr 1
  induction xs with
  | nil => rfl
  | cons x xs ih =>
    rw [List.filterMap_cons, List.filter_cons]
    have ih := ih fun z hz => H z (by simp [hz])
    cases c x <;> simp [ih]
theorem compL_all {α : Type} {f : PV → M (Option PV)} (g : α → PV) (y : α → PV) (xs : List α) (H : ∀ x ∈ xs, f (g x) μ = .ok (some (y x)) μ) : compL f (xs.map g) μ = .ok (xs.map y) μ := by
  rw [compL_map g (fun x => some (y x)) xs H]
  simp
theorem i_seq (e : E F) : evI C b (.seq e) l μ = (evE C b e l μ).bind fun x ν => seqT x ν := by rw [evI]; rfl
theorem seqT_l (xs : List PV) (μ : Mem) : seqT (.v (.lst xs)) μ = .ok (xs, []) μ := rfl
theorem seqT_t (xs : List PV) (μ : Mem) : seqT (.v (.tup xs)) μ = .ok (xs, []) μ := rfl
theorem seqT_s (xs : List Nat) (μ : Mem) : seqT (.v (.str xs)) μ = .ok (xs.map fun c => .str [c], []) μ := rfl
theorem i_enum (e : E F) : evI C b (.enum e) l μ = (evE C b e l μ).bind fun x ν => (seqT x ν).bind fun r ξ => .ok (enumL 0 r.1, r.2) ξ := by rw [evI]; rfl
def rng1 (x : Val) : M (List PV × Srcs) := match x with
      | .v (.int n) => if decide (n < 4611686018427387904) && decide (-4611686018427387904 ≤ n) then pure (rangeL 0 n.toNat, []) else no
      | _ => no
def rng2 (x y : Val) : M (List PV × Srcs) := match x, y with
      | .v (.int m), .v (.int n) =>
        if decide (m < 4611686018427387904) && decide (-4611686018427387904 ≤ m) && decide (n < 4611686018427387904) && decide (-4611686018427387904 ≤ n)
        then pure (rangeL m (n - m).toNat, []) else no
      | _, _ => no
theorem i_range1 (e : E F) : evI C b (.range1 e) l μ = (evE C b e l μ).bind fun x ν => rng1 x ν := by rw [evI]; rfl
theorem i_range2 (e e2 : E F) : evI C b (.range2 e e2) l μ = (evE C b e l μ).bind fun x ν => (evE C b e2 l ν).bind fun y ξ => rng2 x y ξ := by rw [evI]; rfl
def small (n : Int) : Prop := -1000000000 ≤ n ∧ n ≤ 1000000000
theorem rng1_i {n : Int} (h : small n) (μ : Mem) : rng1 (.v (.int n)) μ = .ok (rangeL 0 n.toNat, []) μ := by
  obtain ⟨h1, h2⟩ := h
  unfold rng1
  dsimp only
  rw [if_pos (by simp only [Bool.and_eq_true, decide_eq_true_eq]; omega)]
  rfl
theorem rng2_i {m n : Int} (h : small m) (h' : small n) (μ : Mem) : rng2 (.v (.int m)) (.v (.int n)) μ = .ok (rangeL m (n - m).toNat, []) μ := by
  obtain ⟨h1, h2⟩ := h
  obtain ⟨h3, h4⟩ := h'
  unfold rng2
  dsimp only
  rw [if_pos (by simp only [Bool.and_eq_true, decide_eq_true_eq]; omega)]
  rfl
theorem lock_nil (μ : Mem) : lockM [] μ = .ok [] μ := rfl
theorem unlock_nil (μ : Mem) : unlockM [] μ = .ok () μ := rfl
theorem rangeL_map : ∀ (n : Nat) (m : Int), rangeL m n = (List.range n).map fun (i : Nat) => PV.int (m + i)
  | 0, m => rfl
  | n + 1, m => by
    rw [rangeL, rangeL_map n, List.range_succ_eq_map, List.map_cons, List.map_map]
    congr 1
    · simp
    · apply List.map_congr_left
      intro i _
      simp only [Function.comp_apply, PV.int.injEq, Nat.succ_eq_add_one, Int.natCast_add]
      omega
theorem enumL_map : ∀ (xs : List PV) (i : Int), enumL i xs = xs.mapIdx fun (j : Nat) x => PV.tup [.int (i + j), x]
  | [], i => rfl
  | x :: xs, i => by
    rw [enumL, enumL_map xs, List.mapIdx_cons]
    congr 1
    · simp
    · congr 1
      funext j y
      simp only [PV.tup.injEq, List.cons.injEq, PV.int.injEq, Int.natCast_add, and_true]
      omega
/-- a turn of a loop -/
def turn (C : Mode → Nat → F → List Val → M Val) (b : Nat) (p : Pat) (body : List (S F)) (x : PV) (l : Loc) : M (Loc × Fl) := match asgP p x l with
      | some l' => evB C b body l'
      | none => no
theorem s_for (p : Pat) (it : It F) (body : List (S F)) : evS C b (.for p it body) l μ = (evI C b it l μ).bind fun r ν => (lockM r.2 ν).bind fun ls ξ => (forL (turn C b p body) r.1 l ξ).bind fun z ζ => (unlockM ls ζ).bind fun _ ω => .ok z ω := by rw [evS]; rfl
theorem turn_at {p : Pat} {body : List (S F)} {x : PV} {l' : Loc} (h : asgP p x l = some l') : turn C b p body x l μ = evB C b body l' μ := by
  unfold turn; rw [h]
/-- a loop that comes to its end -/
theorem forL_inv {f : PV → Loc → M (Loc × Fl)} (I : Nat → Loc → Mem → Prop) : ∀ (xs : List PV) (n : Nat) (l : Loc) (μ : Mem), I n l μ →
    (∀ (i : Nat) (x : PV) (l : Loc) (μ : Mem), xs[i]? = some x → I (n + i) l μ → ∃ l' μ', f x l μ = .ok (l', .nx) μ' ∧ I (n + i + 1) l' μ') → ∃ l' μ', forL f xs l μ = .ok (l', .nx) μ' ∧ I (n + xs.length) l' μ'
  | [], n, l, μ, h, _ => ⟨l, μ, rfl, h⟩
  | x :: xs, n, l, μ, h, step => by
    obtain ⟨l1, μ1, e1, h1⟩ := step 0 x l μ rfl h
    obtain ⟨l2, μ2, e2, h2⟩ := forL_inv I xs (n + 1) l1 μ1 h1 fun i y l μ hy hi => by
      have := step (i + 1) y l μ (by simpa using hy) (by rw [show n + (i + 1) = n + 1 + i by omega]; exact hi)
      rw [show n + (i + 1) + 1 = n + 1 + i + 1 by omega] at this
      exact this
    refine ⟨l2, μ2, ?_, by rw [List.length_cons, show n + (xs.length + 1) = n + 1 + xs.length by omega]; exact h2⟩
    show (f x l μ).bind _ = _
    rw [e1]
    exact e2
/-! ### a list of one's own, at the store's end -/
theorem e_own (f : OF F) : evE C b (.own f) l μ = (evF C b f l μ).bind fun o ν => .ok (.o ν.length) (ν ++ [o]) := by rw [evE]; rfl
theorem f_lst (es : List (E F)) : evF C b (.lst es) l μ = (evEs C b es l μ).bind fun vs ν => (flats vs ν).bind fun ps ξ => .ok (.lst ps) ξ := by rw [evF]; rfl
theorem f_dt : evF C b (.dt : OF F) l μ = .ok (.dt []) μ := by rw [evF]; rfl
theorem f_dk : evF C b (.dk : OF F) l μ = .ok (.dk []) μ := by rw [evF]; rfl
theorem at_end (o : MO) : (μ ++ [o])[μ.length]? = some o := by simp
theorem set_end (o u : MO) : (μ ++ [o]).set μ.length u = μ ++ [u] := by simp
theorem w_view (xs : List PV) : view (.o μ.length) (μ ++ [MO.lst xs]) = .ok (.lst xs) (μ ++ [MO.lst xs]) := by
  unfold view
  dsimp only
  rw [at_end]
  rfl
theorem w_kind {m : Me} (h : m = .append ∨ m = .extend) (xs : List PV) : kindM m (.o μ.length) (μ ++ [MO.lst xs]) = .ok () (μ ++ [MO.lst xs]) := by
  have v := w_view (μ := μ) xs
  rcases h with rfl | rfl
  · show (match view (.o μ.length) (μ ++ [MO.lst xs]) with | .ok (.lst _) _ => Res.ok () (μ ++ [MO.lst xs]) | _ => .no) = _
    rw [v]
  · show (match view (.o μ.length) (μ ++ [MO.lst xs]) with | .ok (.lst _) _ => Res.ok () (μ ++ [MO.lst xs]) | _ => .no) = _
    rw [v]
theorem w_kindA (xs : List PV) : kindM .append (.o μ.length) (μ ++ [MO.lst xs]) = .ok () (μ ++ [MO.lst xs]) := w_kind (.inl rfl) xs
theorem w_kindE (xs : List PV) : kindM .extend (.o μ.length) (μ ++ [MO.lst xs]) = .ok () (μ ++ [MO.lst xs]) := w_kind (.inr rfl) xs
theorem w_lstO (g : Nat → List PV → M Val) (xs : List PV) : lstO (.o μ.length) g (μ ++ [MO.lst xs]) = g μ.length xs (μ ++ [MO.lst xs]) := by
  unfold lstO
  dsimp only
  rw [at_end]
theorem w_append (xs : List PV) (p : PV) : meV .append (.o μ.length) [.v p] (μ ++ [MO.lst xs]) = if okN (xs.length + 1) = true then .ok (.v .non) (μ ++ [MO.lst (xs ++ [p])]) else .no := by
  show lstO (.o μ.length) (fun n xs => if okN (xs.length + 1) then setL n (xs ++ [p]) .non else no) (μ ++ [MO.lst xs]) = _
  rw [w_lstO]
  cases h : okN (xs.length + 1)
  · rfl
  · show Res.ok _ ((μ ++ [MO.lst xs]).set μ.length _) = _
    rw [set_end]; rfl
theorem w_extend (xs ys : List PV) : meV .extend (.o μ.length) [.v (.lst ys)] (μ ++ [MO.lst xs]) = if okN (xs.length + ys.length) = true then .ok (.v .non) (μ ++ [MO.lst (xs ++ ys)]) else .no := by
  show lstO (.o μ.length) (fun n xs => if okN (xs.length + ys.length) then setL n (xs ++ ys) .non else no) (μ ++ [MO.lst xs]) = _
  rw [w_lstO]
  cases h : okN (xs.length + ys.length)
  · rfl
  · show Res.ok _ ((μ ++ [MO.lst xs]).set μ.length _) = _
    rw [set_end]; rfl
theorem w_ret (l : Loc) (xs : List PV) : endF .val μ.length (.ok (l, .ret (.o μ.length)) (μ ++ [MO.lst xs])) = .ok (.v (.lst xs)) μ := by
  rw [endF_new (xs := xs) (by omega) (by simp)]
  simp
theorem w_cut (l : Loc) (p : PV) (o : MO) : endF .val μ.length (.ok (l, .ret (.v p)) (μ ++ [o])) = .ok (.v p) μ := by
  rw [endF_ret]; simp
theorem w_sorted (xs : List PV) : biV .sorted [.o μ.length] (μ ++ [MO.lst xs]) = if allAlk xs = true then .ok (.v (.lst (isort xs))) (μ ++ [MO.lst xs]) else .no := by
  show (view (.o μ.length) (μ ++ [MO.lst xs])).bind (fun p ν => (ofO (bi1 .sorted p) ν).bind fun r ξ => Res.ok (Val.v r) ξ) = _
  have v := w_view (μ := μ) xs
  rw [v]
  show (ofO (if allAlk xs = true then some (PV.lst (isort xs)) else none) _).bind _ = _
  cases allAlk xs <;> rfl
theorem w_lenT (kvs : List (List Ky × PV)) : biV .len [.o μ.length] (μ ++ [MO.dt kvs]) = .ok (.v (.int kvs.length)) (μ ++ [MO.dt kvs]) := by
  show (match lenAt (.o μ.length) (μ ++ [MO.dt kvs]) with | some n => Res.ok (Val.v (.int n)) (μ ++ [MO.dt kvs]) | none => _) = _
  have : lenAt (.o μ.length) (μ ++ [MO.dt kvs]) = some kvs.length := by
    show (match (μ ++ [MO.dt kvs])[μ.length]? with | some o => dlen o | none => none) = _
    rw [at_end]; rfl
  rw [this]
end
end SW
end
section
set_option maxRecDepth 100000
/-! Plain facts about values. -/
namespace SW
def Tx (x : PV) : Prop := (∃ s, x = .str s) ∨ ∃ ss : List (List Nat), ss ≠ [] ∧ x = .tup (ss.map PV.str)
theorem alks_str (n : Nat) : ∀ a b : List (List Nat), alks n (a.map PV.str) (b.map PV.str) = true
  | [], _ => by simp [alks]
  | x :: a, [] => by simp [alks]
  | x :: a, y :: b => by simp [alks, alk, alks_str n a b]
theorem dles_str (n : Nat) : ∀ a : List (List Nat), dles n (a.map PV.str) = true
  | [] => by simp [dles]
  | x :: a => by simp [dles, dle, dles_str n a]
theorem allAlk_tups {xs : List PV} (h : ∀ x ∈ xs, ∃ ss : List (List Nat), ss ≠ [] ∧ x = .tup (ss.map PV.str)) : allAlk xs = true := by
  unfold allAlk
  rw [List.all_eq_true]
  intro x hx
  obtain ⟨ss, h1, rfl⟩ := h x hx
  simp only [Bool.and_eq_true]
  refine ⟨⟨?_, by simp [dle, dles_str]⟩, ?_⟩
  · cases ss with
    | nil => exact absurd rfl h1
    | cons s ss => rfl
  · rw [List.all_eq_true]
    intro y hy
    obtain ⟨tt, h2, rfl⟩ := h y hy
    simp [alk, alks_str]
theorem allAlk_strs (ss : List (List Nat)) : allAlk (ss.map PV.str) = true := by
  unfold allAlk
  rw [List.all_eq_true]
  intro x hx
  obtain ⟨s, _, rfl⟩ := List.mem_map.mp hx
  simp only [Bool.and_eq_true]
  refine ⟨⟨rfl, rfl⟩, ?_⟩
  rw [List.all_eq_true]
  intro y hy
  obtain ⟨t, _, rfl⟩ := List.mem_map.mp hy
  rfl
theorem isort_two (s t : List Nat) : isort [.str s, .str t] = if ltS t s = true then [.str t, .str s] else [.str s, .str t] := by
  show ins (.str s) (ins (.str t) []) = _
  show (if ltv (.str t) (.str s) = true then _ else _) = _
  rfl
/-- min and max of two texts, as sorted has them -/
theorem ltS_asymm : ∀ s t : List Nat, ltS s t = true → ltS t s = false
  | [], [], h => by simp [ltS] at h
  | [], y :: t, h => by simp [ltS]
  | x :: s, [], h => by simp [ltS] at h
  | x :: s, y :: t, h => by
    simp only [ltS] at h ⊢
    split at h
    · rename_i e
      subst e
      simp [ltS_asymm s t h]
    · rename_i e
      have : x < y := of_decide_eq_true h
      rw [if_neg (fun z => e z.symm)]
      simp; omega
theorem ltS_total : ∀ s t : List Nat, ltS s t = false → ltS t s = false → s = t
  | [], [], _, _ => rfl
  | [], y :: t, h, _ => by simp [ltS] at h
  | x :: s, [], _, h => by simp [ltS] at h
  | x :: s, y :: t, h, h2 => by
    simp only [ltS] at h h2
    by_cases e : x = y
    · subst e
      rw [if_pos rfl] at h h2
      rw [ltS_total s t h h2]
    · rw [if_neg e] at h
      rw [if_neg (fun z => e z.symm)] at h2
      simp at h h2
      omega
theorem ltS_irrefl : ∀ s : List Nat, ltS s s = false
  | [] => by simp [ltS]
  | x :: s => by simp [ltS, ltS_irrefl s]
theorem ltS_trans : ∀ s t u : List Nat, ltS s t = true → ltS t u = true → ltS s u = true
  | [], [], _, h, _ => by simp [ltS] at h
  | [], _ :: _, [], _, h => by simp [ltS] at h
  | [], _ :: _, _ :: _, _, _ => by simp [ltS]
  | _ :: _, [], _, h, _ => by simp [ltS] at h
  | _ :: _, _ :: _, [], _, h => by simp [ltS] at h
  | x :: s, y :: t, z :: u, h, h2 => by
    simp only [ltS] at h h2 ⊢
    by_cases e : x = y
    · subst e
      rw [if_pos rfl] at h
      by_cases e2 : x = z
      · subst e2; rw [if_pos rfl] at h2 ⊢; exact ltS_trans s t u h h2
      · rw [if_neg e2] at h2 ⊢; exact h2
    · rw [if_neg e] at h
      have h := of_decide_eq_true h
      by_cases e2 : y = z
      · subst e2; rw [if_neg e]; exact decide_eq_true h
      · rw [if_neg e2] at h2
        have h2 := of_decide_eq_true h2
        rw [if_neg (by omega)]; exact decide_eq_true (by omega)
/-- in its place, among texts -/
def insS (x : List Nat) : List (List Nat) → List (List Nat)
  | [] => [x]
  | y :: ys => if ltS y x = true then y :: insS x ys else x :: y :: ys
def isortS : List (List Nat) → List (List Nat)
  | [] => []
  | x :: xs => insS x (isortS xs)
theorem ins_str (x : List Nat) : ∀ ys : List (List Nat), ins (.str x) (ys.map PV.str) = (insS x ys).map PV.str
  | [] => rfl
  | y :: ys => by
    rw [List.map_cons, ins, insS]
    show (if ltS y x = true then _ else _) = _
    split
    · rw [ins_str x ys]; rfl
    · rfl
theorem isort_str : ∀ xs : List (List Nat), isort (xs.map PV.str) = (isortS xs).map PV.str
  | [] => rfl
  | x :: xs => by rw [List.map_cons, isort, isort_str xs, ins_str, isortS]
theorem insS_comm (x y : List Nat) : ∀ l : List (List Nat), insS x (insS y l) = insS y (insS x l)
  | [] => by
    simp only [insS]
    cases h : ltS y x
    · cases h2 : ltS x y
      · rw [ltS_total y x h h2]
      · simp
    · simp [ltS_asymm y x h]
  | z :: l => by
    simp only [insS]
    by_cases h1 : ltS z y = true
    · by_cases h2 : ltS z x = true
      · rw [if_pos h1, if_pos h2, insS, insS, if_pos h2, if_pos h1, insS_comm x y l]
      · have h2 := Bool.eq_false_iff.mpr h2
        have h3 : ltS x y = true := by
          cases e : ltS x y with
          | true => rfl
          | false =>
            cases e2 : ltS x z with
            | true => rw [ltS_trans x z y e2 h1] at e; cases e
            | false => rw [ltS_total x z e2 h2, h1] at e; cases e
        simp only [h1, h2, insS, if_true, Bool.false_eq_true, if_false, h3]
    · have h1 := Bool.eq_false_iff.mpr h1
      by_cases h2 : ltS z x = true
      · have h3 : ltS y x = true := by
          cases e : ltS y x with
          | true => rfl
          | false =>
            cases e2 : ltS y z with
            | true => rw [ltS_trans y z x e2 h2] at e; cases e
            | false => rw [ltS_total y z e2 h1, h2] at e; cases e
        simp only [h1, h2, insS, if_true, Bool.false_eq_true, if_false, h3]
      · have h2 := Bool.eq_false_iff.mpr h2
        simp only [h1, h2, insS, if_true, Bool.false_eq_true, if_false]
        cases e : ltS y x
        · cases e2 : ltS x y
          · rw [ltS_total y x e e2]
          · simp
        · simp [ltS_asymm y x e]
theorem isortS_perm {xs ys : List (List Nat)} (h : xs.Perm ys) : isortS xs = isortS ys := by
  induction h with
  | nil => rfl
  | cons x _ ih => rw [isortS, isortS, ih]
  | swap x y l => rw [isortS, isortS, isortS, isortS, insS_comm]
  | trans _ _ ih1 ih2 => rw [ih1, ih2]
/-- texts once each -/
def onceS : List (List Nat) → List (List Nat)
  | [] => []
  | x :: xs => if x ∈ xs then onceS xs else x :: onceS xs
theorem anyEq_str (x : List Nat) : ∀ ys : List (List Nat), anyEq (.str x) (ys.map PV.str) = decide (x ∈ ys)
  | [] => rfl
  | y :: ys => by
    rw [List.map_cons, anyEq, anyEq_str x ys]
    show (decide (y = x) || _) = _
    by_cases h : y = x
    · subst h; simp
    · have h' : x ≠ y := fun e => h e.symm
      simp [h, h']
theorem once_str : ∀ xs : List (List Nat), once (xs.map PV.str) = (onceS xs).map PV.str
  | [] => rfl
  | x :: xs => by
    rw [List.map_cons, once, anyEq_str, onceS, once_str xs]
    by_cases h : x ∈ xs
    · simp [h]
    · simp [h]
theorem mem_onceS {y : List Nat} : ∀ {xs : List (List Nat)}, y ∈ onceS xs ↔ y ∈ xs
  | [] => by simp [onceS]
  | x :: xs => by
    rw [onceS]
    split
    · rename_i h
      rw [mem_onceS, List.mem_cons]
      exact ⟨.inr, fun z => z.elim (fun e => e ▸ h) id⟩
    · rw [List.mem_cons, mem_onceS, List.mem_cons]
theorem nodup_onceS : ∀ xs : List (List Nat), (onceS xs).Nodup
  | [] => List.nodup_nil
  | x :: xs => by
    rw [onceS]
    split
    · exact nodup_onceS xs
    · rename_i h
      exact List.nodup_cons.mpr ⟨fun z => h (mem_onceS.mp z), nodup_onceS xs⟩
theorem allStr_str : ∀ {xs : List PV}, allStr xs = true → ∃ ss : List (List Nat), xs = ss.map PV.str
  | [], _ => ⟨[], rfl⟩
  | x :: xs, h => by
    cases x with
    | str s =>
      obtain ⟨ss, rfl⟩ := allStr_str (xs := xs) h
      exact ⟨s :: ss, rfl⟩
    | _ => cases h
theorem cut_from {α : Type} (xs : List α) (n : Nat) : cut xs (some (n : Int)) none = xs.drop n := by
  unfold cut sIx
  dsimp only
  rw [if_neg (by omega), Int.toNat_natCast]
  by_cases h : n ≤ xs.length
  · rw [Nat.min_eq_left h, List.take_of_length_le (by simp)]
  · rw [Nat.min_eq_right (by omega), List.drop_of_length_le (Nat.le_refl _), List.drop_of_length_le (by omega), List.take_nil]
theorem cut_to {α : Type} (xs : List α) (n : Nat) : cut xs none (some (n : Int)) = xs.take n := by
  unfold cut sIx
  dsimp only
  rw [if_neg (by omega), Int.toNat_natCast, List.drop_zero, Nat.sub_zero]
  by_cases h : n ≤ xs.length
  · rw [Nat.min_eq_left h]
  · rw [Nat.min_eq_right (by omega), List.take_of_length_le (Nat.le_refl _), List.take_of_length_le (by omega)]
theorem cut_map {α β : Type} (f : α → β) (xs : List α) (i j : Option Int) : cut (xs.map f) i j = (cut xs i j).map f := by
  unfold cut
  rw [List.length_map, List.map_take, List.map_drop]
theorem enum_at {xs : List PV} {i : Nat} {x : PV} (h : (enumL 0 xs)[i]? = some x) : ∃ y, xs[i]? = some y ∧ x = .tup [.int i, y] := by
  rw [enumL_map, List.getElem?_mapIdx] at h
  cases e : xs[i]? with
  | none => rw [e] at h; cases h
  | some y =>
    rw [e] at h
    cases h
    exact ⟨y, rfl, by simp⟩
theorem enum_len (xs : List PV) : (enumL 0 xs).length = xs.length := by rw [enumL_map]; simp
theorem map_at {α β : Type} {f : α → β} {xs : List α} {i : Nat} {y : β} (h : (xs.map f)[i]? = some y) : ∃ x, xs[i]? = some x ∧ y = f x := by
  rw [List.getElem?_map] at h
  cases e : xs[i]? with
  | none => rw [e] at h; cases h
  | some x => rw [e] at h; cases h; exact ⟨x, rfl, rfl⟩
end SW
end
section
set_option maxRecDepth 100000
set_option maxHeartbeats 4000000
/-! sorted(set(a list of texts)). -/
namespace SWS
open PySem PySem.Spec PyProof.Rows L2
open SW (PV Val MO Ky Mem Res M E OF Cn Pat Fl view flat flats ofO bin2 Srcs Keeps Pres Mode FD newO)
def cpsOf (v : Value) : List Nat := match v with | .str x _ => x.cps.toList | _ => []
theorem toS_cps (x : Str) : toS x.cps.toList = x := by
  cases x; simp [toS]
section
variable {P : Program} {w : World} {A : Around} {E : Value → Shared → Prop} {s : Shared} {a : Addr} {xs : List Str}
theorem each_texts {α : Type} {f : α → Str} : ∀ {vs : List Value} {bs : List α}, (∀ v ∈ vs, ∃ x k, v = Value.str x k) → bs.map f = vs.map (fun v => toS (cpsOf v)) → PySem.W.EachIs (fun v b => ∃ k, v = Value.str (f b) k) vs bs
  | [], [], _, _ => .nil
  | [], _ :: _, _, h => by simp at h
  | v :: vs, [], _, h => by simp at h
  | v :: vs, b :: bs, g, h => by
    simp only [List.map_cons, List.cons.injEq] at h
    refine .cons ?_ (each_texts (fun u hu => g u (by simp [hu])) h.2)
    obtain ⟨x, k, rfl⟩ := g v (by simp)
    exact ⟨k, by rw [h.1]; show _ = Value.str (toS x.cps.toList) k; rw [toS_cps]⟩
theorem each_imp {R S : Value → List Nat → Prop} (f : ∀ v b, R v b → S v b) : ∀ {vs : List Value} {bs : List (List Nat)}, PySem.W.EachIs R vs bs → PySem.W.EachIs S vs bs
  | _, _, .nil => .nil
  | _, _, .cons r t => .cons (f _ _ r) (each_imp f t)
/-- sorted of such a set -/
theorem sorted_texts {R : Value → Shared → Prop} (T : TSet P w s.heap a xs) (calm : A.handled = none) (un : A.units + 100 < cLine)
    (q : ∀ s' p (out : Array Value) c (ts : List (List Nat)), (∀ b u, s.heap.get? b = some u → s'.heap.get? b = some u) → s'.gens = s.gens → s'.os = s.os → s.heap.objs.size ≤ p → s'.heap.get? p = some (seqObj "list" out c) → (ts.map toS).Perm xs →
      PySem.W.EachIs (fun v b => ∃ k, v = Value.str (toS b) k) out.toList (SW.isortS ts) → R (.ref p) s') :
    wpAny (model P w) A (call (.builtin "sorted") [.ref a]) R E s := by
  obtain ⟨ob, es, n, t, look, exact_, form, good, pm, nd, few, fit, ris, led⟩ := T
  refine Calls.call_function_entry kind_sorted plain_sorted entry_sorted (args_sorted1 _) ?_
  unfold Builtin.«sorted»
  refine wpAny_bind (m := checkCount "sorted" 1 1 _) (wpAny_pure ?_)
  refine wpAny_bind (collect_set (A := A.in1) calm ⟨ob, look, exact_.1, form⟩ fit few ris led fun s1 vs old big gens os drawn => ?_)
  have isTx : ∀ v ∈ vs, ∃ x k, v = Value.str x k := fun v hv => by
    obtain ⟨e, he, ez⟩ := List.mem_map.mp (drawn.mem_iff.mp hv)
    obtain ⟨x, k, rfl⟩ := good e he
    exact ⟨x, k, ez.symm⟩
  have texts : (vs.map fun v => toS (cpsOf v)).Perm xs := by
    refine ((drawn.map fun v => toS (cpsOf v)).trans ?_).trans pm
    rw [List.map_map]
    refine List.Perm.of_eq (List.map_congr_left fun e he => ?_)
    obtain ⟨x, k, rfl⟩ := good e he
    exact toS_cps x
  have len : vs.length = es.size := by rw [drawn.length_eq, List.length_map, Array.length_toList]
  have small : vs.length ≤ sizeLine := by rw [len]; exact fits_of_scanBound few
  refine wpAny_bind (wpAny_newList ?_ small)
  have lookD : (s1.heap.push (seqObj "list" vs.toArray 0)).get? s1.heap.objs.size = some (seqObj "list" vs.toArray 0) := Heap.get?_push_size _ rfl
  obtain ⟨bs, hbs⟩ : ∃ bs : List (List Nat), bs = vs.map cpsOf := ⟨_, rfl⟩
  have alks : SW.allAlk (bs.map PV.str) = true := SW.allAlk_strs bs
  have enc : bs.map (fun b => PyData.str (toS b)) = (bs.map PV.str).map toD := by
    rw [List.map_map]; rfl
  have each : PySem.W.EachIs (fun v b => ∃ k, v = Value.str (toS b) k) vs bs := each_texts isTx (by rw [hbs, List.map_map]; rfl)
  have lenB : bs.length = vs.length := by rw [hbs, List.length_map]
  refine wpAny_bind (wpAny_holding (PySem.W.list_sort_data (s := { s1 with heap := s1.heap.push (seqObj "list" vs.toArray 0) }) (enc := fun b => PyData.str (toS b)) lookD each
    (each_imp (fun v b ⟨k, e⟩ => ⟨[], by subst e; exact Reads.str _ _, by simp⟩) each) (by rw [enc]; exact allAlk_alike alks) (by rw [enc]; exact allAlk_sortable alks) (by rw [lenB]; exact small) (fun b _ => by
      show A.units + 1 + 1 + 0 < cLine
      omega) fun out outlen sorted_ => ?_))
  obtain ⟨c, made⟩ := sortedHeap_at (vs := vs) (out := out.toArray) lookD
  have sortedIs : bs.mergeSort (PySem.W.dataLe false fun b => PyData.str (toS b)) = SW.isortS bs := by
    have e1 : (bs.mergeSort (PySem.W.dataLe false fun b => PyData.str (toS b))).map PV.str = (SW.isortS bs).map PV.str := by
      rw [PySem.W.sort_maps (r := PySem.W.dataLe false fun b => PyData.str (toS b)) (s := le) PV.str fun a _ b _ => rfl, ← SW.isort_str, isort_isg (allAlk_inv alks).1, isg_merge]
    exact map_inj (fun _ _ z => by cases z; rfl) e1
  rw [sortedIs] at sorted_
  refine wpAny_pure ⟨_, rfl, q _ s1.heap.objs.size out.toArray c bs (fun b u e => ?_) gens os big made (by rw [hbs, List.map_map]; exact texts) (by simpa using sorted_)⟩
  have here := old b u e
  have below := Heap.lt_size here
  show (sortedHeap (s1.heap.push (seqObj "list" vs.toArray 0)) s1.heap.objs.size vs out.toArray).get? b = some u
  rw [sortedHeap_old (Nat.ne_of_lt below) (by rw [size_push']; exact Nat.lt_succ_of_lt below)]
  exact Heap.get?_push_of_some _ here
end
/-! ### over the layer -/
def TSO (P : Program) (w : World) (a : Addr) (xs : List Str) : HO := .ext fun h => TSet P w h a xs
theorem tso_new {P : Program} {w : World} {H : Hp} {h : Heap} {a : Addr} {xs : List Str} (T : TSet P w h a xs) : ObjOk P w H h a (TSO P w a xs) := by
  obtain ⟨ob, r⟩ := id T
  exact ⟨T, ⟨ob, r.choose_spec.choose_spec.choose_spec.1⟩, fun h1 h2 p k => TSet.keep p k⟩
theorem vals_texts : ∀ {ks : List Str} {its : List Value}, Vals (ks.map V.str) its → StrsAre its ks
  | [], _, h => by cases h; exact .nil
  | k :: ks, _, h => by
    rw [List.map_cons] at h
    cases h with
    | cons r t =>
      obtain ⟨tk, rfl⟩ := r
      exact .cons k tk (vals_texts t)
theorem texts_vals : ∀ {out : List Value} {bs : List (List Nat)}, PySem.W.EachIs (fun v b => ∃ k, v = Value.str (toS b) k) out bs → Vals (bs.map fun b => V.str (toS b)) out
  | _, _, .nil => .nil
  | _, _, .cons ⟨k, e⟩ t => .cons ⟨k, e⟩ (texts_vals t)
section
variable {X : Cx}
def rSetT (K : Fg) (P : Program) (w : World) : List V → Hp → VK → Prop := fun xs H Q => ∃ l ks, xs = [.ref l] ∧ SqL K H l (ks.map V.str) ∧ ks.length < 4000 ∧ ∀ p, H p = none → Q (.ref p) (upd H p (TSO P w p (upTo ks ks.length)))
theorem cr_setT (hc : X.calm = true) : CallR X (.type "set") (rSetT X.K X.prog X.w) := by
  intro pins s σ H vs us Q I r h
  obtain ⟨l, ks, rfl, hl, few, q⟩ := h
  obtain ⟨its, rv, pl, hz⟩ := I.list hl
  rw [Vals.ref1 r]
  refine call_set_texts (I.ok.hd hc) pl.isList (by simpa using vals_texts rv) few fun h' tk T old => ?_
  exact ⟨.ref _, _, I.laid (t' := tk) (fun b u e => old b u e) (Nat.le_refl _) (tso_new T), rfl, q _ (I.hok.fresh (Nat.le_refl _))⟩
def rSortT (P : Program) (w : World) : List V → Hp → VK → Prop := fun vs H Q => ∃ a xs, vs = [V.ref a] ∧ H a = some (TSO P w a xs) ∧ xs.length < 4000 ∧ ∀ ts p, (ts.map toS).Perm xs → H p = none → Q (.ref p) (upd H p (.lst ((SW.isortS ts).map fun b => V.str (toS b))))
theorem cr_sortT (hc : X.calm = true) (hu : X.A.units + 100 < cLine) : CallR X (.builtin "sorted") (rSortT X.prog X.w) := by
  intro pins s σ H vs us Q I r h
  obtain ⟨a, xs, rfl, ha, few, q⟩ := h
  have T : TSet X.prog X.w s.heap a xs := (I.hok a _ ha).1
  rw [Vals.ref1 r]
  refine sorted_texts T (I.ok.hd hc) hu fun s' p out c ts old gens os big made pm each => ?_
  have e : s' = { s with heap := s'.heap, gens := s'.gens, drawn := s'.drawn, toks := s'.toks } := by
    cases s'
    cases s
    cases os
    rfl
  have len : ((SW.isortS ts).map fun b => V.str (toS b)).length ≤ sizeLine := by
    have h1 := Paired.length (texts_vals each)
    have h2 : out.toList.length ≤ 4000 := by
      rw [← h1, List.length_map]
      have h3 : ∀ l : List (List Nat), (SW.isortS l).length = l.length := by
        have h4 : ∀ (x : List Nat) (l : List (List Nat)), (SW.insS x l).length = l.length + 1 := by
          intro x l
          induction l with
          | nil => rfl
          | cons y l ih => rw [SW.insS]; split <;> simp [ih]
        intro l
        induction l with
        | nil => rfl
        | cons y l ih => rw [SW.isortS, h4, ih]; rfl
      rw [h3]
      have := pm.length_eq
      rw [List.length_map] at this
      omega
    rw [h1]
    have := sizeLine_eq
    omega
  have fresh : H p = none := I.hok.fresh big
  have J : Inv X pins σ (upd H p (.lst ((SW.isortS ts).map fun b => V.str (toS b)))) { s with heap := s'.heap, gens := s'.gens, drawn := s'.drawn, toks := s'.toks } :=
    I.call (ch := []) (Un.laid old big fresh) (I.hok.laid old big ⟨len, out.toList, c, texts_vals each, by simpa using made⟩) (by rw [gens]; exact I.bare) (fun _ z => nomatch z)
  rw [e]
  exact ⟨.ref p, _, J, rfl, q ts p pm fresh⟩
theorem reps_strs {K : Fg} {R : Hp} : ∀ bs : List (List Nat), Reps K R (bs.map PV.str) (bs.map fun b => V.str (toS b))
  | [] => .nil
  | b :: bs => .cons (.str b) (reps_strs bs)
theorem reps_strs_inv {K : Fg} {R : Hp} : ∀ {bs : List (List Nat)} {vs : List V}, Reps K R (bs.map PV.str) vs → vs = (bs.map toS).map V.str
  | [], _, h => by cases h; rfl
  | b :: bs, _, h => by
    obtain ⟨y, ys, rfl, h1, h2⟩ := Reps.cons_inv (p := .str b) (ps := bs.map PV.str) h
    rw [h1.str_inv, reps_strs_inv h2]; rfl
theorem mem_fold {y : Str} : ∀ {ks xs : List Str}, y ∈ ks.foldl plus xs ↔ y ∈ ks ∨ y ∈ xs
  | [], xs => by simp
  | k :: ks, xs => by
    rw [List.foldl_cons, mem_fold, List.mem_cons]
    unfold plus
    split
    · rename_i hk
      exact ⟨fun z => z.elim (fun z => .inl (.inr z)) .inr, fun z => z.elim (fun z => z.elim (fun e => .inr (e ▸ hk)) .inl) .inr⟩
    · rw [List.mem_cons]
      exact ⟨fun z => z.elim (fun z => .inl (.inr z)) fun z => z.elim (fun e => .inl (.inl e)) .inr, fun z => z.elim (fun z => z.elim (fun e => .inr (.inl e)) .inl) fun z => .inr (.inr z)⟩
theorem nodup_fold : ∀ {ks xs : List Str}, xs.Nodup → (ks.foldl plus xs).Nodup
  | [], xs, h => h
  | k :: ks, xs, h => by
    rw [List.foldl_cons]
    refine nodup_fold ?_
    unfold plus
    split
    · exact h
    · rename_i hk; exact List.nodup_cons.mpr ⟨hk, h⟩
theorem drawn_once {ss ts : List (List Nat)} (h : (ts.map toS).Perm (upTo (ss.map toS) (ss.map toS).length)) : ts.Perm (SW.onceS ss) := by
  have e : upTo (ss.map toS) (ss.map toS).length = (ss.map toS).foldl plus [] := by unfold upTo; rw [List.take_length]
  rw [e] at h
  have nd : ts.Nodup := List.Pairwise.of_map toS (fun a b hne z => hne (congrArg toS z)) (h.nodup_iff.mpr (nodup_fold List.nodup_nil))
  refine (List.perm_ext_iff_of_nodup nd (SW.nodup_onceS ss)).mpr fun b => ?_
  rw [SW.mem_onceS]
  have m : toS b ∈ ts.map toS ↔ toS b ∈ ss.map toS := by
    rw [h.mem_iff, mem_fold]
    simp
  constructor
  · intro hb
    obtain ⟨c, hc, ec⟩ := List.mem_map.mp (m.mp (List.mem_map_of_mem hb))
    rw [← toS_inj.mp ec]; exact hc
  · intro hb
    obtain ⟨c, hc, ec⟩ := List.mem_map.mp (m.mpr (List.mem_map_of_mem hb))
    rw [← toS_inj.mp ec]; exact hc
variable {EC : Nat → Value} {W : WX} {e : Expr} {ga : LF Val} {p p2 q pos : Pos}
/-- sorted(set(e)), e a list of texts -/
theorem ev_sortedSet (hc : X.calm = true) (hu : X.A.units + 100 < cLine) (hg : Gl X "sorted") (hm : X.mg "sorted" = none) (hg2 : Gl X "set") (hm2 : X.mg "set" = none) (ha : PE X e (liftE X.K EC W ga)) (hs : starEach [e] X.env = [(false, eval e X.env)]) :
    PE X (.Call (.Name "sorted" p) [.Call (.Name "set" p2) [e] [] q] [] pos) (liftE X.K EC W fun l => do
      let x ← ga l
      let v ← view x
      match v with
        | .lst xs => if SW.allStr xs && Nat.ble xs.length 3000 then pure (Val.v (.lst (SW.isort (SW.once xs)))) else SW.no
        | _ => SW.no) := by
  refine PE.imp (pe_callB (cr_sortT hc hu) hg hm rfl (pa_cons (pe_callTy (cr_setT hc) hg2 hm2 rfl (pa_cons ha pa_nil hs) (by decide) (by decide) hs rfl) pa_nil rfl) (by decide) (by decide) rfl rfl) fun σ H Q h => ?_
  refine lift_bind h fun F R ρ l μ H1 v x m s r P => ?_
  obtain ⟨pv, hq, P⟩ := view_cases m r P
  cases pv with
  | lst ps =>
    obtain ⟨a, vs, rfl, h1, h2⟩ := hq.sq
    dsimp only at P
    split at P
    · rename_i hz
      simp only [Bool.and_eq_true] at hz
      obtain ⟨ss, rfl⟩ := SW.allStr_str hz.1
      have few := Nat.le_of_ble_eq_true hz.2
      rw [List.length_map] at few
      have := reps_strs_inv h2
      subst this
      refine ⟨a, ss.map toS, rfl, h1, by rw [List.length_map]; omega, fun D hD => ?_⟩
      refine ⟨D, _, rfl, upd_same, Nat.lt_of_le_of_lt (upTo_len _ _) (by rw [List.length_map]; omega), fun ts o pm ho => ?_⟩
      have hRD : R D = none := by
        cases e : R D with
        | none => rfl
        | some u => rw [m.sub D u e] at hD; cases hD
      have P' : Post F X.K (VR X.K) (wx EC W σ) R ρ (.ok (.v (.lst ((SW.isortS ts).map PV.str))) μ) Q := by
        have e2 : SW.isort (SW.once (ss.map PV.str)) = (SW.isortS ts).map PV.str := by
          rw [SW.once_str, SW.isort_str, SW.isortS_perm (drawn_once pm)]
        rw [← e2]; exact P
      exact fresh_lst (m.heap (Sub.new hD)) (reps_strs _) P' o ho
    · exact P.elim
  | _ => exact P.elim
end
end SWS
end
section
set_option maxRecDepth 100000
set_option maxHeartbeats 4000000
/-! Along a dict's keys; dict comprehensions. -/
namespace SWS
open PySem PySem.Spec PyProof.Rows L2
open SW (PV Val MO Ky Mem Res M E OF Cn Pat Fl view flat flats ofO bin2 Srcs Keeps Pres Mode FD newO)
/-! ### a dict of the store, shut -/
section
variable {K : Fg} {F R R' H H' : Hp} {ρ ρ' : List Addr} {μ ν : Mem} {n : Nat} {a : Addr} {kvs : List (Ky × PV)} {ks : List (Key × V)}
theorem MR.shut (m : MR F K R ρ μ H) (ea : ρ[n]? = some a) (e : μ[n]? = some (.dk kvs)) (eh : H a = some (.dK ks)) (kr : KR K R skey kvs ks) (od : Obj) :
    MR (upd F a (.frz od (.dK ks))) K R ρ (μ.set n (.lk (.dk kvs))) (upd H a (.frz od (.dK ks))) := by
  have hR := m.notR ea
  have hn : n < μ.length := (List.getElem?_eq_some_iff.mp e).1
  refine ⟨fun b w eb => ?_, fun b w eb => ?_, fun b w eb => ?_, by simp [m.len], m.nd, m.out, fun k x b ek eb => ?_⟩
  · by_cases hb : b = a
    · subst hb; rw [upd_same] at eb ⊢; exact eb
    · rw [upd_ne hb] at eb ⊢; exact m.fr b w eb
  · by_cases hb : b = a
    · subst hb; rw [upd_same] at eb; cases eb; exact ⟨hR, fun _ => ⟨_, _, rfl⟩⟩
    · rw [upd_ne hb] at eb; exact m.frR b w eb
  · rw [upd_ne (fun z => by subst z; rw [hR] at eb; cases eb)]; exact m.sub b w eb
  · by_cases hk : n = k
    · subst hk
      rw [List.getElem?_set_self hn] at ek
      cases ek
      rw [ea] at eb; cases eb
      exact ⟨od, ks, upd_same, kr⟩
    · rw [List.getElem?_set_ne hk] at ek
      have hab : b ≠ a := fun z => by
        subst z
        obtain ⟨h1, h1'⟩ := List.getElem?_eq_some_iff.mp ea
        obtain ⟨h2, h2'⟩ := List.getElem?_eq_some_iff.mp eb
        exact hk ((List.getElem_inj m.nd).mp (h1'.trans h2'.symm))
      exact (m.obj k x b ek eb).at (upd_ne hab)
theorem MR.unshut {od : Obj} {u : HO} (hF : F a = none) (m : MR (upd F a (.frz od u)) K R ρ μ H) (ea : ρ[n]? = some a) (e : μ[n]? = some (.lk (.dk kvs))) :
    H a = some (.frz od u) ∧ MR F K R ρ (μ.set n (.dk kvs)) (upd H a u) := by
  have here : H a = some (.frz od u) := m.fr a _ upd_same
  have hR := m.notR ea
  have hn : n < μ.length := (List.getElem?_eq_some_iff.mp e).1
  obtain ⟨ob, ks', e2, kr⟩ := m.obj n _ a e ea
  rw [here] at e2
  cases e2
  refine ⟨here, fun b w eb => ?_, fun b w eb => ?_, fun b w eb => ?_, by simp [m.len], m.nd, m.out, fun k x b ek eb => ?_⟩
  · have hb : b ≠ a := fun z => by subst z; rw [hF] at eb; cases eb
    rw [upd_ne hb]; exact m.fr b w (by rw [upd_ne hb]; exact eb)
  · have hb : b ≠ a := fun z => by subst z; rw [hF] at eb; cases eb
    exact m.frR b w (by rw [upd_ne hb]; exact eb)
  · rw [upd_ne (fun z => by subst z; rw [hR] at eb; cases eb)]; exact m.sub b w eb
  · by_cases hk : n = k
    · subst hk
      rw [List.getElem?_set_self hn] at ek
      cases ek
      rw [ea] at eb; cases eb
      exact ⟨ks', upd_same, kr⟩
    · rw [List.getElem?_set_ne hk] at ek
      have hab : b ≠ a := fun z => by
        subst z
        obtain ⟨h1, h1'⟩ := List.getElem?_eq_some_iff.mp ea
        obtain ⟨h2, h2'⟩ := List.getElem?_eq_some_iff.mp eb
        exact hk ((List.getElem_inj m.nd).mp (h1'.trans h2'.symm))
      exact (m.obj k x b ek eb).at (upd_ne hab)
end
/-- the dict is open again -/
def reopen {α : Type} (n : Nat) : α → Mem → Res α := fun a ν => match ν[n]? with
  | some (.lk (.dk ks)) => .ok a (ν.set n (.dk ks))
  | _ => .no
theorem okX_bind {α β γ : Type} (x : Res α) (f : α → Mem → Res β) (k : β → Mem → Res γ) : okX (x.bind f) k = okX x fun a ν => okX (f a ν) k := by cases x <;> rfl
theorem onKeys_at {α : Type} {i : Nat} {l : SW.Loc} {f : List PV → M α} {μ : Mem} {n : Nat} {kvs : List (Ky × PV)} (h : l[i]? = some (some (.o n))) (e : μ[n]? = some (.dk kvs)) :
    SW.onKeys i l f μ = okX (f (kvs.map fun kv => SW.ofKey kv.1) (μ.set n (.lk (.dk kvs)))) (reopen n) := by
  unfold SW.onKeys
  rw [h]
  dsimp only
  rw [e]
  dsimp only
  cases f (kvs.map fun kv => SW.ofKey kv.1) (μ.set n (.lk (.dk kvs))) <;> rfl
theorem onKeys_inv {α β : Type} {K : Fg} {F R H : Hp} {ρ : List Addr} {μ : Mem} {rel : Hp → List Addr → α → β → Prop} {Wx : Nat → Hp → Prop} {Q : β → Hp → Prop} {i : Nat} {l : SW.Loc} {f : List PV → M α} (m : MR F K R ρ μ H)
    (P : Post F K rel Wx R ρ (SW.onKeys i l f μ) Q) : ∃ n kvs a ks, l[i]? = some (some (.o n)) ∧ μ[n]? = some (.dk kvs) ∧ ρ[n]? = some a ∧ H a = some (.dK ks) ∧ KR K R skey kvs ks ∧ F a = none ∧
      Post F K rel Wx R ρ (okX (f (kvs.map fun kv => SW.ofKey kv.1) (μ.set n (.lk (.dk kvs)))) (reopen n)) Q := by
  have P' := P
  unfold SW.onKeys at P'
  split at P'
  · rename_i n h1
    split at P'
    · rename_i kvs h2
      have hn : n < ρ.length := by rw [m.len]; exact (List.getElem?_eq_some_iff.mp h2).1
      have ea : ρ[n]? = some ρ[n] := List.getElem?_eq_getElem hn
      obtain ⟨ks, h3, h4⟩ := m.obj n _ _ h2 ea
      rw [onKeys_at h1 h2] at P
      refine ⟨n, kvs, ρ[n], ks, h1, h2, ea, h3, h4, ?_, P⟩
      cases e : F ρ[n] with
      | none => rfl
      | some u =>
        obtain ⟨ob, v, rfl⟩ := (m.frR _ u e).2 (List.mem_of_getElem? ea)
        have := m.fr _ _ e
        rw [h3] at this; cases this
    · exact P'.elim
  · exact P'.elim
/-- what an iterator over a shut dict's keys does -/
theorem keys_walk {K : Fg} {R : Hp} {kvs : List (Ky × PV)} {ks : List (Key × V)} (kr : KR K R skey kvs ks) (a : Addr) (od : Obj) {R2 H2 : Hp} (hH : H2 a = some (.frz od (.dK ks))) :
    (∀ i, i < (kvs.map fun kv => SW.ofKey kv.1).length → (Itk a od ks).go i H2) ∧ (Itk a od ks).stop (kvs.map fun kv => SW.ofKey kv.1).length H2 ∧
      ∀ i y H', i < (kvs.map fun kv => SW.ofKey kv.1).length → (Itk a od ks).yld i H2 y H' → H' = H2 ∧ ∀ p, (kvs.map fun kv => SW.ofKey kv.1)[i]? = some p → Rep K R2 p y := by
  have len : ks.length = kvs.length := kr.len
  have w := walk_keys (d := a) (o := od) (kvs := ks)
  refine ⟨fun i hi => w.goes i H2 (by rw [List.length_map] at hi; omega) hH, by rw [List.length_map, ← len]; exact w.stops H2 hH, fun i y H' hi hy => ?_⟩
  obtain ⟨rfl, k, v, e1, rfl⟩ := w.yields i H2 y H' (by rw [List.length_map] at hi; omega) hH hy
  refine ⟨rfl, fun p hp => ?_⟩
  rw [List.getElem?_map] at hp
  obtain ⟨q, hq, rfl⟩ := Option.map_eq_some_iff.mp hp
  have z : skey q.1 = k := by
    have : ∀ {xs : List (Ky × PV)} {ys : List (Key × V)} {i : Nat} {q : Ky × PV} {k : Key} {v : V}, KR K R skey xs ys → xs[i]? = some q → ys[i]? = some (k, v) → skey q.1 = k := by
      intro xs ys i q k v h
      induction h generalizing i with
      | nil => intro h1; simp at h1
      | cons r _ ih =>
        cases i with
        | zero => intro h1 h2; simp at h1 h2; subst h1; rw [r.1, h2]
        | succ i => intro h1 h2; exact ih (by simpa using h1) (by simpa using h2)
    exact this kr hq e1
  subst z
  cases hk : q.1 with
  | inl j => exact .int j
  | inr s => exact .str s
/-! ### the core of a comprehension, for any iterator -/
theorem okX_step {f : PV → M (Option PV)} (hx : ∀ x μ c ν, f x μ ≠ .exn c ν) {x : PV} {xs acc : List PV} {μ : Mem} {fin : List PV → Mem → Res Val} :
    okX (SW.compL f (x :: xs) μ) (fun ys ν => fin (acc ++ ys) ν) = okX (f x μ) fun y ν => okX (SW.compL f xs ν) fun ys τ => fin (acc ++ SW.consO y ys) τ := by
  rw [compL_cons, okX_bind]
  congr 1
  funext y ν
  rw [okX_bind]
  rfl
theorem post_lenJ {K : Fg} {F R : Hp} {ρ : List Addr} {Wx : Nat → Hp → Prop} {Q : VK} {f : PV → M (Option PV)} {fin : List PV → Mem → Res Val} (hl : ∀ ys μ, fin ys μ ≠ .no → ys.length ≤ 16777216) {xs acc : List PV} {μ : Mem}
    (P : Post F K (VR K) Wx R ρ (okX (SW.compL f xs μ) fun ys ν => fin (acc ++ ys) ν) Q) : acc.length ≤ 16777216 := by
  cases e1 : SW.compL f xs μ with
  | no => rw [e1] at P; exact P.elim
  | exn c ν => rw [e1] at P; exact P.elim
  | ok ys ν =>
    rw [e1] at P
    have := hl (acc ++ ys) ν (fun z => by
      have P : Post F K (VR K) Wx R ρ (fin (acc ++ ys) ν) Q := P
      rw [z] at P; exact P)
    rw [List.length_append] at this
    omega
theorem comp_coreJ {K : Fg} {EC EC' : Nat → Value} {W' : WX} {p : Pat} {own : List Nat} {gc : LF Bool} {ge : LF Val} {fin : List PV → Mem → Res Val} (hp : ∀ i ∈ pslots p, i ∈ own) (hc : ∀ l, Pres (gc l)) (he : ∀ l, Pres (ge l))
    (hl : ∀ ys μ, fin ys μ ≠ .no → ys.length ≤ 16777216) {F0 F R H1 : Hp} {ρ : List Addr} {l : SW.Loc} {σ : L2.St} {μ2 : Mem} {J : L2.It} {xs : List PV} {Wx : Nat → Hp → Prop} {Q : VK} {Qd : Addr → Hp → Prop} (m2 : MR F K R ρ μ2 H1) (sr : SR K R ρ l σ)
    (rI : ∀ (F' Ri : Hp) (ρi : List Addr) (μi : Mem) (H2 : Hp), Sub F F' → Sub R Ri → ρ <+: ρi → MR F' K Ri ρi μi H2 → Keeps μ2 μi →
      (∀ i, i < xs.length → J.go i H2) ∧ J.stop xs.length H2 ∧ ∀ i y H', i < xs.length → J.yld i H2 y H' → ∀ p, xs[i]? = some p → ∃ R3, Sub Ri R3 ∧ MR F' K R3 ρi μi H' ∧ Rep K R3 p y)
    (P : Post F0 K (VR K) Wx R ρ (okX (SW.compL (stepC p own gc ge l) xs μ2) fin) Q)
    (hfin : ∀ (Ri H : Hp) (ρi : List Addr) (μi : Mem) (D : Addr) (accP : List PV) (acc : List V), Sub R Ri → ρ <+: ρi → MR F K Ri ρi μi H → H D = some (.lst acc) → Ri D = none → D ∉ ρi → F D = none → Reps K Ri accP acc → Keeps μ2 μi → Post F0 K (VR K) Wx Ri ρi (fin accP μi) Q → Qd D H)
    (D : Addr) (hD : H1 D = none) :
    ∃ W : Nat → Nat → Hp → Prop, (∃ m, W 0 m (upd H1 D (.lst []))) ∧ ∀ i m H, W i m H →
      (J.stop i H ∧ Qd D H) ∨ (J.go i H ∧ ∃ Nx : Hp → Prop, (∀ H', Nx H' → ∃ m', m' < m ∧ W (i + 1) m' H') ∧ ∀ x H', J.yld i H x H' → gPat K p x (L2.wipe σ own) H' fun σ2 H2 => L2.wipe σ2 own = L2.wipe σ own ∧ liftT K EC W' gc σ2 H2 fun b H3 =>
        if b = true then liftE K EC' W' ge σ2 H3 fun y H4 => ∃ acc, H4 D = some (.lst acc) ∧ acc.length < sizeLine ∧ Nx (upd H4 D (.lst (acc ++ [y]))) else Nx H3) := by
  have hFD : F D = none := by
    cases e : F D with
    | none => rfl
    | some u => rw [m2.fr D u e] at hD; cases hD
  have hx : ∀ x μ c ν, stepC p own gc ge l x μ ≠ .exn c ν := fun x μ c ν => noX_exn
  let Wd : Nat → Hp → Prop := fun i H => ∃ Ri ρi μi accP acc, Sub R Ri ∧ ρ <+: ρi ∧ MR (upd F D (.lst acc)) K Ri ρi μi H ∧ Reps K Ri accP acc ∧ Keeps μ2 μi ∧
    Post F0 K (VR K) Wx Ri ρi (okX (SW.compL (stepC p own gc ge l) (xs.drop i) μi) fun ys ν => fin (accP ++ ys) ν) Q
  refine ⟨fun i m H => m = xs.length - i ∧ i ≤ xs.length ∧ Wd i H, ⟨xs.length, by simp, Nat.zero_le _, R, ρ, μ2, [], [], Sub.refl R, List.prefix_refl ρ, m2.frame_in hD _, .nil, Keeps.refl _, P⟩, ?_⟩
  rintro i m H2 ⟨rfl, hi, Ri, ρi, μi, accP, acc, si, pi, mi, ri, ki, Pi⟩
  obtain ⟨go, stop, yld⟩ := rI (upd F D (.lst acc)) Ri ρi μi H2 (Sub.new hFD) si pi mi ki
  by_cases hlt : i < xs.length
  · refine .inr ⟨go i hlt, Wd (i + 1), fun H' w => ⟨xs.length - (i + 1), by omega, rfl, hlt, w⟩, fun x H' hy => ?_⟩
    obtain ⟨R3, s3, m3, rx⟩ := yld i x H' hlt hy _ (List.getElem?_eq_getElem hlt)
    rw [List.drop_eq_getElem_cons hlt, okX_step hx] at Pi
    cases ea : SW.asgP p xs[i] (SW.wipeL l own) with
    | none =>
      have : stepC p own gc ge l xs[i] μi = .no := by unfold stepC; rw [ea]; rfl
      rw [this] at Pi
      exact Pi.elim
    | some l' =>
      have sr3 : SR K R3 ρi (SW.wipeL l own) (L2.wipe σ own) := (sr.mono (si.trans s3) pi).wipe own
      refine pat_ok (vs := own) m3.sub p xs[i] x _ l' _ _ ea sr3 rx fun σ2 sr2 w2 => ?_
      have P3 := Pi.mono s3 (List.prefix_refl ρi)
      have hst : stepC p own gc ge l xs[i] μi = okX (gc l' μi) fun ok ν => SW.noX (if ok then (do
            let v ← ge l'
            let y ← flat v
            pure (some y)) else pure none : M (Option PV)) ν := by
        unfold stepC
        rw [ea]
        exact noX_bind (gc l') (fun ok => (if ok then (do
            let v ← ge l'
            let y ← flat v
            pure (some y)) else pure none : M (Option PV))) μi
      rw [hst] at P3
      refine ⟨(w2 hp).trans (wipe_idem own σ), upd F D (.lst acc), R3, ρi, l', μi, m3, sr2, ?_⟩
      cases eg : gc l' μi with
      | no => rw [eg] at P3; exact P3.elim
      | exn c ν => rw [eg] at P3; exact P3.elim
      | ok b μ3 =>
        rw [eg] at P3
        have k3 : Keeps μ2 μ3 := ki.trans (hc l' μi b μ3 eg)
        intro R4 ρ4 H4 b' s4 p4 m4 rb
        have rb : b = b' := rb
        subst rb
        have P4 := P3.mono s4 p4
        cases b with
        | false =>
          rw [if_neg Bool.false_ne_true]
          exact ⟨R4, ρ4, μ3, accP, acc, (si.trans s3).trans s4, pi.trans p4, m4, ri.mono (s3.trans s4), k3, P4⟩
        | true =>
          rw [if_pos rfl]
          have P4 : Post F0 K (VR K) Wx R4 ρ4 (okX (SW.noX (ge l' >>= fun v => flat v >>= fun y => pure (some y) : M (Option PV)) μ3) fun y ν => okX (SW.compL (stepC p own gc ge l) (xs.drop (i + 1)) ν) fun ys τ => fin (accP ++ SW.consO y ys) τ) Q := P4
          rw [noX_bind] at P4
          refine ⟨upd F D (.lst acc), R4, ρ4, l', μ3, m4, sr2.mono s4 p4, ?_⟩
          cases ev : ge l' μ3 with
          | no => rw [ev] at P4; exact P4.elim
          | exn c ν => rw [ev] at P4; exact P4.elim
          | ok v μ4 =>
            rw [ev] at P4
            intro R5 ρ5 H5 y s5 p5 m5 rv
            cases v with
            | o n => exact P4.elim
            | v q =>
              have P5 : Post F0 K (VR K) Wx R5 ρ5 (okX (SW.compL (stepC p own gc ge l) (xs.drop (i + 1)) μ4) fun ys τ => fin ((accP ++ [q]) ++ ys) τ) Q := by
                have := P4.mono s5 p5
                simp only [List.append_assoc, List.singleton_append]
                exact this
              have ra : Reps K R5 (accP ++ [q]) (acc ++ [y]) := (ri.mono ((s3.trans s4).trans s5)).append (.cons rv .nil)
              have hlen := post_lenJ hl P5
              refine ⟨acc, (m5.frame_at fun _ _ z => by cases z).1, ?_, R5, ρ5, μ4, accP ++ [q], acc ++ [y], ((si.trans s3).trans s4).trans s5, (pi.trans p4).trans p5, m5.frame_put (fun _ _ z => by cases z) _, ra, k3.trans (he l' μ3 _ μ4 ev), P5⟩
              have h2 := ra.length
              rw [List.length_append, List.length_append] at h2
              rw [List.length_append] at hlen
              simp only [List.length_singleton] at h2 hlen
              rw [sizeLine_eq]; omega
  · have hil : i = xs.length := by omega
    subst hil
    refine .inl ⟨stop, ?_⟩
    rw [List.drop_length] at Pi
    have Pi : Post F0 K (VR K) Wx Ri ρi (fin (accP ++ []) μi) Q := Pi
    rw [List.append_nil] at Pi
    obtain ⟨hH, hR, hρ⟩ := mi.frame_at fun _ _ z => by cases z
    exact hfin Ri H2 ρi μi D accP acc si pi (mi.frame_out hFD) hH hR hρ hFD ri ki Pi
/-- a comprehension along a dict's keys -/
def gCompK (i : Nat) (st : SW.Loc → PV → M (Option PV)) (fin : List PV → M Val) : LF Val := fun l => SW.onKeys i l fun xs => do
  let ys ← SW.compL (st l) xs
  fin ys
theorem lift_keys {K : Fg} {EC EC' : Nat → Value} {W W' : WX} {i : Nat} {p : Pat} {own : List Nat} {gc : LF Bool} {ge : LF Val} (hp : ∀ j ∈ pslots p, j ∈ own) (hc : ∀ l, Pres (gc l)) (he : ∀ l, Pres (ge l)) {σ : L2.St} {H : Hp} {Q : VK}
    (h : liftE K EC W (gCompK i (stepC p own gc ge) finV) σ H Q) :
    ∃ d u, H d = some u ∧ Mut (some u) ∧ ∀ od, tLc (iKeys (liftE K EC W (gVar i))) (gPat K p) (liftT K EC' W' gc) (liftE K EC' W' ge) own σ (upd H d (.frz od u)) fun v H' => H' d = some (.frz od u) ∧ Q v (upd H' d u) := by
  obtain ⟨F, R, ρ, l, μ, m, sr, P⟩ := h
  obtain ⟨n, kvs, a, ks, h1, h2, ea, h3, kr, hF, P⟩ := onKeys_inv m P
  refine ⟨a, .dK ks, h3, trivial, fun od => ?_⟩
  have m1 := m.shut ea h2 h3 kr od
  refine ⟨upd F a (.frz od (.dK ks)), R, ρ, l, μ.set n (.lk (.dk kvs)), m1, sr, ?_⟩
  unfold gVar
  rw [h1]
  rintro R1 ρ1 H1 y s1 p1 m2 ⟨b, eb, rfl⟩
  obtain ⟨t, rfl⟩ := p1
  have hb : b = a := by
    rw [List.getElem?_append_left (List.getElem?_eq_some_iff.mp ea).1, ea] at eb
    cases eb; rfl
  subst hb
  refine ⟨b, od, rfl, .inl ⟨ks, m2.fr b _ upd_same, fun D hD => ?_⟩⟩
  have P1 : Post F K (VR K) (wx EC W σ) R1 (ρ ++ t) (okX (SW.compL (stepC p own gc ge l) (kvs.map fun kv => SW.ofKey kv.1) (μ.set n (.lk (.dk kvs)))) fun ys ν => okX (finV ys ν) (reopen n)) Q := by
    have := P.mono s1 (List.prefix_append ρ t)
    exact (okX_bind (SW.compL (stepC p own gc ge l) (kvs.map fun kv => SW.ofKey kv.1) (μ.set n (.lk (.dk kvs)))) (fun ys ν => finV ys ν) (reopen n)) ▸ this
  refine comp_coreJ (F0 := F) (Qd := fun D H' => H' b = some (.frz od (.dK ks)) ∧ Q (.ref D) (upd H' b (.dK ks))) hp hc he (fun ys μ hz => ?_) m2 (sr.mono s1 (List.prefix_append ρ t)) (fun F' Ri ρi μi H2 sF sR pR mi ki => ?_) P1 (fun Ri H2 ρi μi D accP acc si pi mi hH hR hρ hFD ri ki Pi => ?_) D hD
  · unfold finV at hz
    split at hz
    · rename_i hk; exact Nat.le_of_ble_eq_true hk
    · exact absurd rfl hz
  · have hH : H2 b = some (.frz od (.dK ks)) := mi.fr b _ (sF b _ upd_same)
    obtain ⟨w1, w2, w3⟩ := keys_walk (R2 := Ri) kr b od hH
    refine ⟨w1, w2, fun i y H' hi hy q hq => ?_⟩
    obtain ⟨rfl, w4⟩ := w3 i y H' hi hy
    exact ⟨Ri, Sub.refl _, mi, w4 q hq⟩
  · unfold finV at Pi
    split at Pi
    · have lock : μi[n]? = some (.lk (.dk kvs)) := ki n _ (List.getElem?_set_self (List.getElem?_eq_some_iff.mp h2).1)
      have P2 : Post F K (VR K) (wx EC W σ) Ri ρi (reopen n (Val.v (.lst accP)) μi) Q := Pi
      unfold reopen at P2
      rw [lock] at P2
      have e1 : ρi[n]? = some b := by
        obtain ⟨t', rfl⟩ := pi
        rw [List.getElem?_append_left (by rw [List.length_append]; have := (List.getElem?_eq_some_iff.mp ea).1; omega)]
        exact eb
      obtain ⟨z1, z2⟩ := MR.unshut hF mi e1 lock
      refine ⟨z1, ?_⟩
      have hDb : D ≠ b := fun z => hρ (by rw [z]; exact List.mem_of_getElem? e1)
      have hFD' : F D = none := by rw [upd_ne hDb] at hFD; exact hFD
      obtain ⟨m', s'⟩ := z2.adoptR (D := D) (o := .lst acc) (by rw [upd_ne hDb]; exact hH) hR hρ hFD'
      exact P2 _ ρi _ (.ref D) s' (List.prefix_refl ρi) m' (.lst (.inl upd_same) (ri.mono s'))
    · exact Pi.elim
section
variable {X : Cx} {EC : Nat → Value} {W : WX} {elt tg iter : Expr} {ifs : List Expr} {scope : Scope} {ownP : List (Str × Nat)} {pos : Pos} {p : Pat} {gc : LF Bool} {ge : LF Val} {i : Nat}
/-- what the parts are to do -/
structure LkOk (X : Cx) (EC : Nat → Value) (W : WX) (elt tg iter : Expr) (ifs : List Expr) (scope : Scope) (ownP : List (Str × Nat)) (i : Nat) (p : Pat) (gc : LF Bool) (ge : LF Val) : Prop where
  it : PE X iter (liftE X.K EC W (gVar i))
  blk : BlkOk X.N X.env.scope scope ownP
  tg : ∀ (s : Shared) (H : Hp) (C : Addr) (cl : List (Str × Addr)) (fp : List Addr), PG (X.blk s H scope (compEnvC scope cl C X.env) fp) tg (gPat X.K p)
  ts : ∀ (s : Shared) (H : Hp) (C : Addr) (cl : List (Str × Addr)) (fp : List Addr), PTs (X.blk s H scope (compEnvC scope cl C X.env) fp) ifs (liftT X.K EC W0 gc)
  el : ∀ (s : Shared) (H : Hp) (C : Addr) (cl : List (Str × Addr)) (fp : List Addr), PE (X.blk s H scope (compEnvC scope cl C X.env) fp) elt (liftE X.K EC W0 ge)
  fs : ∀ x, foldedSetIterable iter X.env x = pure x
  ps : ∀ i ∈ pslots p, i ∈ ownP.map (·.2)
  pc : ∀ l, Pres (gc l)
  pe : ∀ l, Pres (ge l)
theorem ev_lcK (hc : X.calm = true) (hN : X.N.Nodup) (L : LkOk X EC W elt tg iter ifs scope ownP i p gc ge) :
    PE X (.ListComp elt [⟨tg, iter, ifs, 0⟩] scope pos) (liftE X.K EC W (gCompK i (stepC p (ownP.map (·.2)) gc ge) finV)) :=
  PE.imp (pe_lock (pe_lc hc hN (pi_keys L.it) L.blk L.tg L.ts L.el L.fs)) fun σ H Q h => lift_keys L.ps L.pc L.pe h
theorem es_setLcK {j : Nat} {y : Str} {py spos : Pos} (hc : X.calm = true) (hN : X.N.Nodup) (hy : X.N[j]? = some y) (hyl : X.env.scope.names.lookup y = some .local)
    (hsw : swapsWith (.ListComp elt [⟨tg, iter, ifs, 0⟩] scope pos) (some (.Name y py)) spos.line X.env = pure true) (L : LkOk X EC W elt tg iter ifs scope ownP i p gc ge) :
    PS X (.Assign [.Name y py] (.ListComp elt [⟨tg, iter, ifs, 0⟩] scope pos) spos) (liftS X.K EC W fun l => do let v ← gCompK i (stepC p (ownP.map (·.2)) gc ge) finV l; SW.lift2 (SW.asgV (.v j) v l)) := by
  refine PS.imp (ps_lock (ps_setLc hc hN hy hyl hsw (pi_keys L.it) L.blk L.tg L.ts L.el L.fs)) fun D σ H h => ?_
  refine lift_keys (EC := EC) (W := W) (Q := fun x H1 => gName j x σ H1 D.nx) L.ps L.pc L.pe ?_
  exact lift_bind h fun F R ρ l μ H1 v x m s r P => asg_ok (p := .v j) m s r P
end
end SWS
end
section
set_option maxRecDepth 100000
set_option maxHeartbeats 4000000
/-! Dict comprehensions. -/
namespace SWS
open PySem PySem.Spec PyProof.Rows L2
open SW (PV Val MO Ky Mem Res M E OF Cn Pat Fl view flat flats ofO bin2 Srcs Keeps Pres Mode FD newO)
theorem mkDict_app : ∀ (xs ys : List (PV × PV)) (d : List (Ky × PV)), SW.mkDict (xs ++ ys) d = match SW.mkDict xs d with | some e => SW.mkDict ys e | none => none
  | [], ys, d => rfl
  | (k, v) :: xs, ys, d => by
    rw [List.cons_append, SW.mkDict, SW.mkDict]
    cases SW.keyOf k with
    | none => rfl
    | some j => exact mkDict_app xs ys _
theorem dput_len (d : List (Ky × PV)) (k : Ky) (v : PV) : (SW.dput d k v).length ≤ d.length + 1 := by
  unfold SW.dput
  split
  · rw [List.length_map]; omega
  · rw [List.length_append]; simp
theorem mkDict_len : ∀ (xs : List (PV × PV)) (d e : List (Ky × PV)), SW.mkDict xs d = some e → e.length ≤ d.length + xs.length
  | [], d, e, h => by cases h; simp
  | (k, v) :: xs, d, e, h => by
    rw [SW.mkDict] at h
    cases hk : SW.keyOf k with
    | none => rw [hk] at h; cases h
    | some j =>
      rw [hk] at h
      have := mkDict_len xs _ e h
      have := dput_len d j v
      rw [List.length_cons]; omega
def stepD (p : Pat) (own : List Nat) (gc : LF Bool) (gk ge : LF Val) : SW.Loc → PV → M (Option (PV × PV)) := fun l x => SW.noX (match SW.asgP p x (SW.wipeL l own) with
  | some l' => do
    let ok ← gc l'
    if ok then (do
      let kv ← gk l'
      let kp ← flat kv
      let v ← ge l'
      let y ← flat v
      pure (some (kp, y)))
    else pure none
  | none => SW.no)
theorem okX_stepD {f : PV → M (Option (PV × PV))} {x : PV} {xs : List PV} {acc : List (PV × PV)} {μ : Mem} {fin : List (PV × PV) → Mem → Res Val} :
    okX (SW.compL f (x :: xs) μ) (fun ys ν => fin (acc ++ ys) ν) = okX (f x μ) fun y ν => okX (SW.compL f xs ν) fun ys τ => fin (acc ++ SW.consO y ys) τ := by
  rw [compL_cons, okX_bind]
  congr 1
  funext y ν
  rw [okX_bind]
  rfl
theorem post_mk {K : Fg} {F R : Hp} {ρ : List Addr} {Wx : Nat → Hp → Prop} {Q : VK} {f : PV → M (Option (PV × PV))} {fin : List (PV × PV) → Mem → Res Val} (hl : ∀ ys μ, fin ys μ ≠ .no → ys.length ≤ 16777216 ∧ ∃ d, SW.mkDict ys [] = some d) {xs : List PV} {acc : List (PV × PV)} {μ : Mem}
    (P : Post F K (VR K) Wx R ρ (okX (SW.compL f xs μ) fun ys ν => fin (acc ++ ys) ν) Q) : acc.length ≤ 16777216 ∧ ∃ d, SW.mkDict acc [] = some d := by
  cases e1 : SW.compL f xs μ with
  | no => rw [e1] at P; exact P.elim
  | exn c ν => rw [e1] at P; exact P.elim
  | ok ys ν =>
    rw [e1] at P
    obtain ⟨h1, d, h2⟩ := hl (acc ++ ys) ν (fun z => by
      have P : Post F K (VR K) Wx R ρ (fin (acc ++ ys) ν) Q := P
      rw [z] at P; exact P)
    rw [List.length_append] at h1
    refine ⟨by omega, ?_⟩
    rw [mkDict_app] at h2
    cases e : SW.mkDict acc [] with
    | none => rw [e] at h2; cases h2
    | some d' => exact ⟨d', rfl⟩
theorem dcomp_coreJ {K : Fg} {EC EC' : Nat → Value} {W' : WX} {p : Pat} {own : List Nat} {gc : LF Bool} {gk ge : LF Val} {fin : List (PV × PV) → Mem → Res Val} (hp : ∀ i ∈ pslots p, i ∈ own) (hc : ∀ l, Pres (gc l)) (hk : ∀ l, Pres (gk l)) (he : ∀ l, Pres (ge l))
    (hl : ∀ ys μ, fin ys μ ≠ .no → ys.length ≤ 16777216 ∧ ∃ d, SW.mkDict ys [] = some d) {F0 F R H1 : Hp} {ρ : List Addr} {l : SW.Loc} {σ : L2.St} {μ2 : Mem} {J : L2.It} {xs : List PV} {Wx : Nat → Hp → Prop} {Q : VK} {Qd : Addr → Hp → Prop} (m2 : MR F K R ρ μ2 H1) (sr : SR K R ρ l σ)
    (rI : ∀ (F' Ri : Hp) (ρi : List Addr) (μi : Mem) (H2 : Hp), Sub F F' → Sub R Ri → ρ <+: ρi → MR F' K Ri ρi μi H2 → Keeps μ2 μi →
      (∀ i, i < xs.length → J.go i H2) ∧ J.stop xs.length H2 ∧ ∀ i y H', i < xs.length → J.yld i H2 y H' → ∀ p, xs[i]? = some p → ∃ R3, Sub Ri R3 ∧ MR F' K R3 ρi μi H' ∧ Rep K R3 p y)
    (P : Post F0 K (VR K) Wx R ρ (okX (SW.compL (stepD p own gc gk ge l) xs μ2) fin) Q)
    (hfin : ∀ (Ri H : Hp) (ρi : List Addr) (μi : Mem) (D : Addr) (accP : List (PV × PV)) (d : List (Ky × PV)) (ks : List (Key × V)), Sub R Ri → ρ <+: ρi → MR F K Ri ρi μi H → H D = some (.dK ks) → Ri D = none → D ∉ ρi → F D = none → SW.mkDict accP [] = some d → KR K Ri skey d ks → Keeps μ2 μi → Post F0 K (VR K) Wx Ri ρi (fin accP μi) Q → Qd D H)
    (D : Addr) (hD : H1 D = none) :
    ∃ W : Nat → Nat → Hp → Prop, (∃ m, W 0 m (upd H1 D (.dK []))) ∧ ∀ i m H, W i m H →
      (J.stop i H ∧ Qd D H) ∨ (J.go i H ∧ ∃ Nx : Hp → Prop, (∀ H', Nx H' → ∃ m', m' < m ∧ W (i + 1) m' H') ∧ ∀ x H', J.yld i H x H' → gPat K p x (L2.wipe σ own) H' fun σ2 H2 => L2.wipe σ2 own = L2.wipe σ own ∧ liftT K EC W' gc σ2 H2 fun b H3 =>
        if b = true then liftE K EC' W' gk σ2 H3 fun y H4 => liftE K EC' W' ge σ2 H4 fun z H5 => ∃ kvs k, y = kV k ∧ H5 D = some (.dK kvs) ∧ kvs.length < sizeLine ∧ Nx (upd H5 D (.dK (putK kvs k z))) else Nx H3) := by
  have hFD : F D = none := by
    cases e : F D with
    | none => rfl
    | some u => rw [m2.fr D u e] at hD; cases hD
  have nf : ∀ (ks : List (Key × V)) ob v, HO.dK ks ≠ .frz ob v := fun _ _ _ z => by cases z
  let Wd : Nat → Hp → Prop := fun i H => ∃ Ri ρi μi accP d ks, Sub R Ri ∧ ρ <+: ρi ∧ MR (upd F D (.dK ks)) K Ri ρi μi H ∧ SW.mkDict accP [] = some d ∧ KR K Ri skey d ks ∧ Keeps μ2 μi ∧
    Post F0 K (VR K) Wx Ri ρi (okX (SW.compL (stepD p own gc gk ge l) (xs.drop i) μi) fun ys ν => fin (accP ++ ys) ν) Q
  refine ⟨fun i m H => m = xs.length - i ∧ i ≤ xs.length ∧ Wd i H, ⟨xs.length, by simp, Nat.zero_le _, R, ρ, μ2, [], [], [], Sub.refl R, List.prefix_refl ρ, m2.frame_in hD _, rfl, .nil, Keeps.refl _, P⟩, ?_⟩
  rintro i m H2 ⟨rfl, hi, Ri, ρi, μi, accP, d, ks, si, pi, mi, hd, ri, ki, Pi⟩
  obtain ⟨go, stop, yld⟩ := rI (upd F D (.dK ks)) Ri ρi μi H2 (Sub.new hFD) si pi mi ki
  by_cases hlt : i < xs.length
  · refine .inr ⟨go i hlt, Wd (i + 1), fun H' w => ⟨xs.length - (i + 1), by omega, rfl, hlt, w⟩, fun x H' hy => ?_⟩
    obtain ⟨R3, s3, m3, rx⟩ := yld i x H' hlt hy _ (List.getElem?_eq_getElem hlt)
    rw [List.drop_eq_getElem_cons hlt, okX_stepD] at Pi
    cases ea : SW.asgP p xs[i] (SW.wipeL l own) with
    | none =>
      have : stepD p own gc gk ge l xs[i] μi = .no := by unfold stepD; rw [ea]; rfl
      rw [this] at Pi
      exact Pi.elim
    | some l' =>
      have sr3 : SR K R3 ρi (SW.wipeL l own) (L2.wipe σ own) := (sr.mono (si.trans s3) pi).wipe own
      refine pat_ok (vs := own) m3.sub p xs[i] x _ l' _ _ ea sr3 rx fun σ2 sr2 w2 => ?_
      have P3 := Pi.mono s3 (List.prefix_refl ρi)
      have hst : stepD p own gc gk ge l xs[i] μi = okX (gc l' μi) fun ok ν => SW.noX (if ok then (do
            let kv ← gk l'
            let kp ← flat kv
            let v ← ge l'
            let y ← flat v
            pure (some (kp, y))) else pure none : M (Option (PV × PV))) ν := by
        unfold stepD
        rw [ea]
        exact noX_bind (gc l') (fun ok => (if ok then (do
            let kv ← gk l'
            let kp ← flat kv
            let v ← ge l'
            let y ← flat v
            pure (some (kp, y))) else pure none : M (Option (PV × PV)))) μi
      rw [hst] at P3
      refine ⟨(w2 hp).trans (wipe_idem own σ), upd F D (.dK ks), R3, ρi, l', μi, m3, sr2, ?_⟩
      cases eg : gc l' μi with
      | no => rw [eg] at P3; exact P3.elim
      | exn c ν => rw [eg] at P3; exact P3.elim
      | ok b μ3 =>
        rw [eg] at P3
        have k3 : Keeps μ2 μ3 := ki.trans (hc l' μi b μ3 eg)
        intro R4 ρ4 H4 b' s4 p4 m4 rb
        have rb : b = b' := rb
        subst rb
        have P4 := P3.mono s4 p4
        cases b with
        | false =>
          rw [if_neg Bool.false_ne_true]
          exact ⟨R4, ρ4, μ3, accP, d, ks, (si.trans s3).trans s4, pi.trans p4, m4, hd, KR.mono (s3.trans s4) ri, k3, P4⟩
        | true =>
          rw [if_pos rfl]
          have P4 : Post F0 K (VR K) Wx R4 ρ4 (okX (SW.noX (gk l' >>= fun kv => flat kv >>= fun kp => ge l' >>= fun v => flat v >>= fun y => pure (some (kp, y)) : M (Option (PV × PV))) μ3) fun y ν => okX (SW.compL (stepD p own gc gk ge l) (xs.drop (i + 1)) ν) fun ys τ => fin (accP ++ SW.consO y ys) τ) Q := P4
          rw [noX_bind] at P4
          refine ⟨upd F D (.dK ks), R4, ρ4, l', μ3, m4, sr2.mono s4 p4, ?_⟩
          cases ev : gk l' μ3 with
          | no => rw [ev] at P4; exact P4.elim
          | exn c ν => rw [ev] at P4; exact P4.elim
          | ok kv μ4 =>
            rw [ev] at P4
            intro R5 ρ5 H5 y s5 p5 m5 rkv
            cases kv with
            | o n => exact P4.elim
            | v q =>
              have P5 : Post F0 K (VR K) Wx R5 ρ5 (okX (SW.noX (ge l' >>= fun v => flat v >>= fun y => pure (some (q, y)) : M (Option (PV × PV))) μ4) fun y ν => okX (SW.compL (stepD p own gc gk ge l) (xs.drop (i + 1)) ν) fun ys τ => fin (accP ++ SW.consO y ys) τ) Q := P4.mono s5 p5
              rw [noX_bind] at P5
              refine ⟨upd F D (.dK ks), R5, ρ5, l', μ4, m5, (sr2.mono s4 p4).mono s5 p5, ?_⟩
              cases ev2 : ge l' μ4 with
              | no => rw [ev2] at P5; exact P5.elim
              | exn c ν => rw [ev2] at P5; exact P5.elim
              | ok v μ5 =>
                rw [ev2] at P5
                intro R6 ρ6 H6 z s6 p6 m6 rv
                cases v with
                | o n => exact P5.elim
                | v w =>
                  have P6 : Post F0 K (VR K) Wx R6 ρ6 (okX (SW.compL (stepD p own gc gk ge l) (xs.drop (i + 1)) μ5) fun ys τ => fin ((accP ++ [(q, w)]) ++ ys) τ) Q := by
                    have := P5.mono s6 p6
                    simp only [List.append_assoc, List.singleton_append]
                    exact this
                  obtain ⟨hlen, d2, hd2⟩ := post_mk hl P6
                  have hd3 := hd2
                  rw [mkDict_app, hd] at hd3
                  dsimp only at hd3
                  rw [SW.mkDict] at hd3
                  cases ek : SW.keyOf q with
                  | none => rw [ek] at hd3; cases hd3
                  | some k =>
                    rw [ek] at hd3
                    have e2 : d2 = SW.dput d k w := by cases hd3; rfl
                    subst e2
                    have hy : y = kV (skey k) := keyOf_rep ek rkv
                    have ra : KR K R6 skey d ks := KR.mono (((s3.trans s4).trans s5).trans s6) ri
                    have rn : KR K R6 skey (SW.dput d k w) (putK ks (skey k) z) := ra.put (fun _ _ => skey_inj) k rv
                    refine ⟨ks, skey k, hy, (m6.frame_at (nf ks)).1, ?_, R6, ρ6, μ5, accP ++ [(q, w)], _, _, (((si.trans s3).trans s4).trans s5).trans s6, ((pi.trans p4).trans p5).trans p6, m6.frame_put (nf ks) _, hd2, rn, (k3.trans (hk l' μ3 _ μ4 ev)).trans (he l' μ4 _ μ5 ev2), P6⟩
                    have h1 := mkDict_len accP [] d hd
                    have h2 := ra.len
                    rw [List.length_append, List.length_singleton] at hlen
                    simp only [List.length_nil] at h1
                    rw [sizeLine_eq]; omega
  · have hil : i = xs.length := by omega
    subst hil
    refine .inl ⟨stop, ?_⟩
    rw [List.drop_length] at Pi
    have Pi : Post F0 K (VR K) Wx Ri ρi (fin (accP ++ []) μi) Q := Pi
    rw [List.append_nil] at Pi
    obtain ⟨hH, hR, hρ⟩ := mi.frame_at (nf ks)
    exact hfin Ri H2 ρi μi D accP d ks si pi (mi.frame_out hFD) hH hR hρ hFD hd ri ki Pi
/-- what is made of the pairs -/
def finD (ys : List (PV × PV)) : M Val := do
  let o ← (if SW.okN ys.length then (do
      let d ← ofO (SW.mkDict ys [])
      pure (.dk d)) else SW.no : M MO)
  newO o
theorem finD_at {ys : List (PV × PV)} {μ : Mem} (h : finD ys μ ≠ .no) : ys.length ≤ 16777216 ∧ ∃ d, SW.mkDict ys [] = some d := by
  unfold finD at h
  cases e : SW.okN ys.length with
  | false => rw [e] at h; exact absurd rfl h
  | true =>
    refine ⟨Nat.le_of_ble_eq_true e, ?_⟩
    cases e2 : SW.mkDict ys [] with
    | none => rw [e, e2] at h; exact absurd rfl h
    | some d => exact ⟨d, rfl⟩
theorem finD_eq {ys : List (PV × PV)} {d : List (Ky × PV)} {μ : Mem} (h : finD ys μ ≠ .no) (hd : SW.mkDict ys [] = some d) : finD ys μ = .ok (.o μ.length) (μ ++ [.dk d]) := by
  unfold finD at h ⊢
  cases e : SW.okN ys.length with
  | false => rw [e] at h; exact absurd rfl h
  | true => rw [hd]; rfl
def gDComp (gi : LF (List PV × Srcs)) (st : SW.Loc → PV → M (Option (PV × PV))) : LF Val := fun l => do
  let r ← gi l
  let ls ← SW.lockM r.2
  let ys ← SW.compL (st l) r.1
  SW.unlockM ls
  finD ys
def gDCompK (i : Nat) (st : SW.Loc → PV → M (Option (PV × PV))) : LF Val := fun l => SW.onKeys i l fun xs => do
  let ys ← SW.compL (st l) xs
  finD ys
section
variable {K : Fg} {EC EC' : Nat → Value} {W W' : WX} {p : Pat} {own : List Nat} {gc : LF Bool} {gk ge : LF Val} {σ : L2.St} {H : Hp} {Q : VK}
theorem lift_dc {gi : LF (List PV × Srcs)} (hp : ∀ j ∈ pslots p, j ∈ own) (hc : ∀ l, Pres (gc l)) (hk : ∀ l, Pres (gk l)) (he : ∀ l, Pres (ge l)) (ht : ∀ l μ r μ', gi l μ = .ok r μ' → There r.2 μ')
    (h : liftE K EC W (gDComp gi (stepD p own gc gk ge)) σ H Q) : tDc (liftI K EC W gi) (gPat K p) (liftT K EC' W' gc) (liftE K EC' W' gk) (liftE K EC' W' ge) own σ H Q := by
  refine lift_bindE h fun F R ρ l μ0 μ1 H1 r J e0 m1 sr rI P => ?_
  obtain ⟨xs, src⟩ := r
  have hthere := ht _ _ _ _ e0
  dsimp only at P hthere
  intro D hD
  have P : Post F K (VR K) (wx EC W σ) R ρ ((SW.lockM src μ1).bind fun ls μ2 => (SW.compL (stepD p own gc gk ge l) xs μ2).bind fun ys μ3 => (SW.unlockM ls μ3).bind fun _ μ4 => finD ys μ4) Q := P
  cases el : SW.lockM src μ1 with
  | no => rw [el] at P; exact P.elim
  | exn c ν => exact absurd el (lockM_exn src μ1 c ν)
  | ok ls μ2 =>
    rw [el] at P
    obtain ⟨m2, hd2⟩ := lock_MR m1 hthere el
    have P1 : Post F K (VR K) (wx EC W σ) R ρ (okX (SW.compL (stepD p own gc gk ge l) xs μ2) fun ys ν => (SW.unlockM ls ν).bind fun _ τ => finD ys τ) Q := by
      have P : Post F K (VR K) (wx EC W σ) R ρ ((SW.compL (stepD p own gc gk ge l) xs μ2).bind fun ys μ3 => (SW.unlockM ls μ3).bind fun _ μ4 => finD ys μ4) Q := P
      cases e : SW.compL (stepD p own gc gk ge l) xs μ2 with
      | ok ys ν => rw [e] at P; exact P
      | no => rw [e] at P; exact P.elim
      | exn c ν => exact absurd e (compL_exn (fun x μ c ν => noX_exn) xs μ2 c ν)
    refine dcomp_coreJ (F0 := F) (Qd := fun D H' => Q (.ref D) H') hp hc hk he (fun ys μ hz => ?_) m2 sr (fun F' Ri ρi μi H2 sF sR pR mi ki => rI F' Ri ρi μi H2 sR pR mi (hd2.keep ki)) P1 (fun Ri H2 ρi μi D accP d ks si pi mi hH hR hρ hFD hd kr ki Pi => ?_) D hD
    · cases e : SW.unlockM ls μ with
      | ok u τ =>
        rw [e] at hz
        exact finD_at (μ := τ) hz
      | no => rw [e] at hz; exact absurd rfl hz
      | exn c ν => exact absurd e (unlockM_exn ls μ c ν)
    · cases e : SW.unlockM ls μi with
      | no => rw [e] at Pi; exact Pi.elim
      | exn c ν => exact absurd e (unlockM_exn ls μi c ν)
      | ok u τ =>
        rw [e] at Pi
        have Pi : Post F K (VR K) (wx EC W σ) Ri ρi (finD accP τ) Q := Pi
        rw [finD_eq (fun z => by rw [z] at Pi; exact Pi) hd] at Pi
        have mu := unlock_MR mi e
        exact Pi Ri (ρi ++ [D]) H2 (.ref D) (Sub.refl Ri) (List.prefix_append ρi [D]) (mu.adoptO (x := .dk d) ⟨ks, hH, kr⟩ hR hρ hFD) ⟨D, by rw [← mu.len]; simp, rfl⟩
theorem lift_dcK {i : Nat} (hp : ∀ j ∈ pslots p, j ∈ own) (hc : ∀ l, Pres (gc l)) (hk : ∀ l, Pres (gk l)) (he : ∀ l, Pres (ge l)) (h : liftE K EC W (gDCompK i (stepD p own gc gk ge)) σ H Q) :
    ∃ d u, H d = some u ∧ Mut (some u) ∧ ∀ od, tDc (iKeys (liftE K EC W (gVar i))) (gPat K p) (liftT K EC' W' gc) (liftE K EC' W' gk) (liftE K EC' W' ge) own σ (upd H d (.frz od u)) fun v H' => H' d = some (.frz od u) ∧ Q v (upd H' d u) := by
  obtain ⟨F, R, ρ, l, μ, m, sr, P⟩ := h
  obtain ⟨n, kvs, a, ks0, h1, h2, ea, h3, kr0, hF, P⟩ := onKeys_inv m P
  refine ⟨a, .dK ks0, h3, trivial, fun od => ?_⟩
  have m1 := m.shut ea h2 h3 kr0 od
  refine ⟨upd F a (.frz od (.dK ks0)), R, ρ, l, μ.set n (.lk (.dk kvs)), m1, sr, ?_⟩
  unfold gVar
  rw [h1]
  rintro R1 ρ1 H1 y s1 p1 m2 ⟨b, eb, rfl⟩
  obtain ⟨t, rfl⟩ := p1
  have hb : b = a := by
    rw [List.getElem?_append_left (List.getElem?_eq_some_iff.mp ea).1, ea] at eb
    cases eb; rfl
  subst hb
  refine ⟨b, od, rfl, .inl ⟨ks0, m2.fr b _ upd_same, fun D hD => ?_⟩⟩
  have P1 : Post F K (VR K) (wx EC W σ) R1 (ρ ++ t) (okX (SW.compL (stepD p own gc gk ge l) (kvs.map fun kv => SW.ofKey kv.1) (μ.set n (.lk (.dk kvs)))) fun ys ν => okX (finD ys ν) (reopen n)) Q := by
    have := P.mono s1 (List.prefix_append ρ t)
    exact (okX_bind (SW.compL (stepD p own gc gk ge l) (kvs.map fun kv => SW.ofKey kv.1) (μ.set n (.lk (.dk kvs)))) (fun ys ν => finD ys ν) (reopen n)) ▸ this
  refine dcomp_coreJ (F0 := F) (Qd := fun D H' => H' b = some (.frz od (.dK ks0)) ∧ Q (.ref D) (upd H' b (.dK ks0))) hp hc hk he (fun ys μ hz => finD_at (μ := μ) fun z => ?_) m2 (sr.mono s1 (List.prefix_append ρ t)) (fun F' Ri ρi μi H2 sF sR pR mi ki => ?_) P1 (fun Ri H2 ρi μi D accP d ks si pi mi hH hR hρ hFD hd kr ki Pi => ?_) D hD
  · rw [z] at hz; exact hz rfl
  · have hH : H2 b = some (.frz od (.dK ks0)) := mi.fr b _ (sF b _ upd_same)
    obtain ⟨w1, w2, w3⟩ := keys_walk (R2 := Ri) kr0 b od hH
    refine ⟨w1, w2, fun i y H' hi hy q hq => ?_⟩
    obtain ⟨rfl, w4⟩ := w3 i y H' hi hy
    exact ⟨Ri, Sub.refl _, mi, w4 q hq⟩
  · rw [finD_eq (fun z => by rw [z] at Pi; exact Pi) hd] at Pi
    have lock : μi[n]? = some (.lk (.dk kvs)) := ki n _ (List.getElem?_set_self (List.getElem?_eq_some_iff.mp h2).1)
    have hni : n < μi.length := (List.getElem?_eq_some_iff.mp lock).1
    have P2 : Post F K (VR K) (wx EC W σ) Ri ρi (reopen n (Val.o μi.length) (μi ++ [.dk d])) Q := Pi
    unfold reopen at P2
    rw [List.getElem?_append_left hni, lock] at P2
    dsimp only at P2
    rw [List.set_append_left _ _ hni] at P2
    have e1 : ρi[n]? = some b := by
      obtain ⟨t', rfl⟩ := pi
      rw [List.getElem?_append_left (by rw [List.length_append]; have := (List.getElem?_eq_some_iff.mp ea).1; omega)]
      exact eb
    obtain ⟨z1, z2⟩ := MR.unshut hF mi e1 lock
    refine ⟨z1, ?_⟩
    have hDb : D ≠ b := fun z => hρ (by rw [z]; exact List.mem_of_getElem? e1)
    have hFD' : F D = none := by rw [upd_ne hDb] at hFD; exact hFD
    exact P2 Ri (ρi ++ [D]) _ (.ref D) (Sub.refl Ri) (List.prefix_append ρi [D]) (z2.adoptO (x := .dk d) ⟨ks, by rw [upd_ne hDb]; exact hH, kr⟩ hR hρ hFD') ⟨D, by rw [← mi.len]; simp, rfl⟩
end
section
variable {X : Cx}
/-- name = {..} on one line, the name a local -/
theorem ps_setDc {i : Nat} {y : Str} {py : Pos} {kx vx tg iter : Expr} {ifs : List Expr} {scope : Scope} {own : List (Str × Nat)} {pos spos : Pos} {wi : TI} {g : TG} {tt : TT} {tk tv : TE} (hc : X.calm = true) (hN : X.N.Nodup) (hy : X.N[i]? = some y) (hyl : X.env.scope.names.lookup y = some .local)
    (hsw : swapsWith (.DictComp kx vx [⟨tg, iter, ifs, 0⟩] scope pos) (some (.Name y py)) spos.line X.env = pure true) (hi : PI X tg iter wi) (ok : BlkOk X.N X.env.scope scope own)
    (hg : ∀ (s : Shared) (H : Hp) (C : Addr) (cl : List (Str × Addr)) (fp : List Addr), PG (X.blk s H scope (compEnvC scope cl C X.env) fp) tg g) (ht : ∀ (s : Shared) (H : Hp) (C : Addr) (cl : List (Str × Addr)) (fp : List Addr), PTs (X.blk s H scope (compEnvC scope cl C X.env) fp) ifs tt)
    (hk : ∀ (s : Shared) (H : Hp) (C : Addr) (cl : List (Str × Addr)) (fp : List Addr), PE (X.blk s H scope (compEnvC scope cl C X.env) fp) kx tk)
    (he : ∀ (s : Shared) (H : Hp) (C : Addr) (cl : List (Str × Addr)) (fp : List Addr), PE (X.blk s H scope (compEnvC scope cl C X.env) fp) vx tv) (hs : ∀ x, foldedSetIterable iter X.env x = pure x) :
    PS X (.Assign [.Name y py] (.DictComp kx vx [⟨tg, iter, ifs, 0⟩] scope pos) spos) (tAsg (tDc wi g tt tk tv (own.map (·.2))) (gName i)) := by
  refine ⟨fun pins s σ H D I h => ?_⟩
  rw [exec_Assign_Name_used _ _ _ _ hsw]
  refine wpAny_bind (wpAny_standAt (wpAny_bind ?_))
  show wpAny _ X.A (do let _ ← comprehension (.DictComp kx vx [⟨tg, iter, ifs, 0⟩] scope pos) scope X.env (firstIterPos [⟨tg, iter, ifs, 0⟩] pos) newDict false (eval iter X.env) (some (assign (.Name y py) X.env))) _ _ s
  have h : tDc wi g tt tk tv (own.map (·.2)) σ H (fun x H1 => gName i x σ H1 D.nx) := h
  refine wpAny_bind (thn (dc_core (Qf := fun _ z => SP X pins D .next z) hc hN I hi ok hg ht hk he hs h fun L C z m G J q hn f => ?_) fun _ z hq => wpAny_pure (wpAny_pure hq))
  show wpAny _ _ (assign (.Name y py) X.env (.ref L)) _ _ _
  refine wpAny_assign_Name (store_ok2 (v := V.ref L) J hN hy (.inl hyl) rfl (fun z2 J2 ⟨a, sb, ha⟩ => ?_) (.inr hyl))
  obtain ⟨f0, f1, f2, f3, f4, f5⟩ := f
  have apart : C ≠ a := ha.elim (fun e => by rw [e]; exact f1) fun e z => f4 y a e z.symm
  refine ⟨m, hn.sameBut sb apart, fun h3 sb3 => ?_⟩
  exact ⟨_, G, J2.turned (t' := z2.toks) (fun b o hb e => (sb3.2 b hb).trans e) f0 f1 f3 f4 f5, q⟩
end
section
variable {X : Cx} {EC : Nat → Value} {W : WX} {kx vx tg iter : Expr} {ifs : List Expr} {scope : Scope} {ownP : List (Str × Nat)} {pos : Pos} {p : Pat} {gi : LF (List PV × Srcs)} {gc : LF Bool} {gk ge : LF Val} {i : Nat}
/-- what the parts are to do, but for the source -/
structure DcOk (X : Cx) (EC : Nat → Value) (W : WX) (kx vx tg iter : Expr) (ifs : List Expr) (scope : Scope) (ownP : List (Str × Nat)) (p : Pat) (gc : LF Bool) (gk ge : LF Val) : Prop where
  blk : BlkOk X.N X.env.scope scope ownP
  tg : ∀ (s : Shared) (H : Hp) (C : Addr) (cl : List (Str × Addr)) (fp : List Addr), PG (X.blk s H scope (compEnvC scope cl C X.env) fp) tg (gPat X.K p)
  ts : ∀ (s : Shared) (H : Hp) (C : Addr) (cl : List (Str × Addr)) (fp : List Addr), PTs (X.blk s H scope (compEnvC scope cl C X.env) fp) ifs (liftT X.K EC W0 gc)
  ky : ∀ (s : Shared) (H : Hp) (C : Addr) (cl : List (Str × Addr)) (fp : List Addr), PE (X.blk s H scope (compEnvC scope cl C X.env) fp) kx (liftE X.K EC W0 gk)
  el : ∀ (s : Shared) (H : Hp) (C : Addr) (cl : List (Str × Addr)) (fp : List Addr), PE (X.blk s H scope (compEnvC scope cl C X.env) fp) vx (liftE X.K EC W0 ge)
  fs : ∀ x, foldedSetIterable iter X.env x = pure x
  ps : ∀ i ∈ pslots p, i ∈ ownP.map (·.2)
  pc : ∀ l, Pres (gc l)
  pk : ∀ l, Pres (gk l)
  pe : ∀ l, Pres (ge l)
theorem ev_dc (hc : X.calm = true) (hN : X.N.Nodup) (it : PI X tg iter (liftI X.K EC W gi)) (th : ∀ l μ r μ', gi l μ = .ok r μ' → There r.2 μ') (L : DcOk X EC W kx vx tg iter ifs scope ownP p gc gk ge) :
    PE X (.DictComp kx vx [⟨tg, iter, ifs, 0⟩] scope pos) (liftE X.K EC W (gDComp gi (stepD p (ownP.map (·.2)) gc gk ge))) :=
  PE.imp (pe_dc hc hN it L.blk L.tg L.ts L.ky L.el L.fs) fun σ H Q h => lift_dc L.ps L.pc L.pk L.pe th h
theorem ev_dcK (hc : X.calm = true) (hN : X.N.Nodup) (it : PE X iter (liftE X.K EC W (gVar i))) (L : DcOk X EC W kx vx tg iter ifs scope ownP p gc gk ge) :
    PE X (.DictComp kx vx [⟨tg, iter, ifs, 0⟩] scope pos) (liftE X.K EC W (gDCompK i (stepD p (ownP.map (·.2)) gc gk ge))) :=
  PE.imp (pe_lock (pe_dc hc hN (pi_keys it) L.blk L.tg L.ts L.ky L.el L.fs)) fun σ H Q h => lift_dcK L.ps L.pc L.pk L.pe h
theorem es_setDc {j : Nat} {y : Str} {py spos : Pos} (hc : X.calm = true) (hN : X.N.Nodup) (hy : X.N[j]? = some y) (hyl : X.env.scope.names.lookup y = some .local)
    (hsw : swapsWith (.DictComp kx vx [⟨tg, iter, ifs, 0⟩] scope pos) (some (.Name y py)) spos.line X.env = pure true) (it : PI X tg iter (liftI X.K EC W gi)) (th : ∀ l μ r μ', gi l μ = .ok r μ' → There r.2 μ') (L : DcOk X EC W kx vx tg iter ifs scope ownP p gc gk ge) :
    PS X (.Assign [.Name y py] (.DictComp kx vx [⟨tg, iter, ifs, 0⟩] scope pos) spos) (liftS X.K EC W fun l => do let v ← gDComp gi (stepD p (ownP.map (·.2)) gc gk ge) l; SW.lift2 (SW.asgV (.v j) v l)) := by
  refine PS.imp (ps_setDc hc hN hy hyl hsw it L.blk L.tg L.ts L.ky L.el L.fs) fun D σ H h => ?_
  refine lift_dc (EC := EC) (W := W) (Q := fun x H1 => gName j x σ H1 D.nx) L.ps L.pc L.pk L.pe th ?_
  exact lift_bind h fun F R ρ l μ H1 v x m s r P => asg_ok (p := .v j) m s r P
theorem es_setDcK {j : Nat} {y : Str} {py spos : Pos} (hc : X.calm = true) (hN : X.N.Nodup) (hy : X.N[j]? = some y) (hyl : X.env.scope.names.lookup y = some .local)
    (hsw : swapsWith (.DictComp kx vx [⟨tg, iter, ifs, 0⟩] scope pos) (some (.Name y py)) spos.line X.env = pure true) (it : PE X iter (liftE X.K EC W (gVar i))) (L : DcOk X EC W kx vx tg iter ifs scope ownP p gc gk ge) :
    PS X (.Assign [.Name y py] (.DictComp kx vx [⟨tg, iter, ifs, 0⟩] scope pos) spos) (liftS X.K EC W fun l => do let v ← gDCompK i (stepD p (ownP.map (·.2)) gc gk ge) l; SW.lift2 (SW.asgV (.v j) v l)) := by
  refine PS.imp (ps_lock (ps_setDc hc hN hy hyl hsw (pi_keys it) L.blk L.tg L.ts L.ky L.el L.fs)) fun D σ H h => ?_
  refine lift_dcK (EC := EC) (W := W) (Q := fun x H1 => gName j x σ H1 D.nx) L.ps L.pc L.pk L.pe ?_
  exact lift_bind h fun F R ρ l μ H1 v x m s r P => asg_ok (p := .v j) m s r P
end
/-! ### for, along a dict's keys -/
section
variable {X : Cx} {EC : Nat → Value} {W : WX} {pos : Pos}
theorem okX_forL {f : PV → SW.Loc → M (SW.Loc × Fl)} {x : PV} {xs : List PV} {l : SW.Loc} {μ : Mem} {γ : Type} {k : SW.Loc × Fl → Mem → Res γ} :
    okX (SW.forL f (x :: xs) l μ) k = okX (f x l μ) fun r ν => match r.2 with
      | .nx => okX (SW.forL f xs r.1 ν) k
      | .ret v => k (r.1, .ret v) ν := by
  have e : SW.forL f (x :: xs) l μ = (f x l μ).bind fun r ν => (match r.2 with | .nx => SW.forL f xs r.1 | .ret v => pure (r.1, .ret v) : M (SW.Loc × Fl)) ν := rfl
  rw [e, okX_bind]
  congr 1
  funext r ν
  obtain ⟨l1, fl⟩ := r
  cases fl <;> rfl
theorem es_forK (hW : WOk W) (hpo : PassesOwn (model X.prog X.w) X.A X.env X.xe) (hc : X.calm = true) {i : Nat} {tg iter : Expr} {body : List Stmt} {p : Pat} {gb : LF (SW.Loc × Fl)} (it : PE X iter (liftE X.K EC W (gVar i))) (hg : PG X tg (gPat X.K p)) (hb : PSs X body (liftS X.K EC W gb))
    (hp : ∀ l, Pres (gb l)) (hs : ∀ x, foldedSetIterable iter X.env x = pure x) :
    PS X (.For tg iter body [] pos) (liftS X.K EC W fun l => SW.onKeys i l fun xs => SW.forL (stepF p gb) xs l) := by
  refine PS.imp (ps_lock (ps_for hpo hc (pi_keys it) hg hb hs)) fun D σ H h => ?_
  obtain ⟨F, R, ρ, l, μ, m, sr, P⟩ := h
  obtain ⟨n, kvs, a, ks, h1, h2, ea, h3, kr, hF, P⟩ := onKeys_inv m P
  refine ⟨a, .dK ks, h3, trivial, fun od => ?_⟩
  have m1 := m.shut ea h2 h3 kr od
  refine ⟨upd F a (.frz od (.dK ks)), R, ρ, l, μ.set n (.lk (.dk kvs)), m1, sr, ?_⟩
  unfold gVar
  rw [h1]
  rintro R1 ρ1 H1 y s1 p1 m2 ⟨b, eb, rfl⟩
  obtain ⟨t, rfl⟩ := p1
  have hb' : b = a := by
    rw [List.getElem?_append_left (List.getElem?_eq_some_iff.mp ea).1, ea] at eb
    cases eb; rfl
  subst hb'
  refine ⟨b, od, rfl, .inl ⟨ks, m2.fr b _ upd_same, ?_⟩⟩
  have P1 := P.mono s1 (List.prefix_append ρ t)
  generalize hxs : (kvs.map fun kv => SW.ofKey kv.1) = xs at P1
  have sr1 := sr.mono s1 (List.prefix_append ρ t)
  -- what is left behind the loop
  have last : ∀ (Ri H2 : Hp) (ρi : List Addr) (μi : Mem) (z : SW.Loc × Fl) (y : L2.St ⊕ V), Sub R1 Ri → ρ ++ t <+: ρi → MR (upd F b (.frz od (.dK ks))) X.K Ri ρi μi H2 → Keeps (μ.set n (.lk (.dk kvs))) μi → relFl X.K Ri ρi z y →
      Post F X.K (relFl X.K) (wx EC W σ) Ri ρi (reopen n z μi) (DQ D) → H2 b = some (.frz od (.dK ks)) ∧ DQ D y (upd H2 b (.dK ks)) := by
    intro Ri H2 ρi μi z y si pi mi ki rz Pz
    have lock : μi[n]? = some (.lk (.dk kvs)) := ki n _ (List.getElem?_set_self (List.getElem?_eq_some_iff.mp h2).1)
    unfold reopen at Pz
    rw [lock] at Pz
    have e1 : ρi[n]? = some b := by
      obtain ⟨t', rfl⟩ := pi
      rw [List.getElem?_append_left (by rw [List.length_append]; have := (List.getElem?_eq_some_iff.mp ea).1; omega)]
      exact eb
    obtain ⟨z1, z2⟩ := MR.unshut hF mi e1 lock
    exact ⟨z1, Pz.here z2 rz⟩
  let Wd : Nat → L2.St → Hp → Prop := fun i σ' H => ∃ Ri ρi μi li, Sub R1 Ri ∧ ρ ++ t <+: ρi ∧ MR (upd F b (.frz od (.dK ks))) X.K Ri ρi μi H ∧ SR X.K Ri ρi li σ' ∧ Keeps (μ.set n (.lk (.dk kvs))) μi ∧
    Post F X.K (relFl X.K) (wx EC W σ) Ri ρi (okX (SW.forL (stepF p gb) (xs.drop i) li μi) (reopen n)) (DQ D)
  refine ⟨fun i m σ' H => m = xs.length - i ∧ i ≤ xs.length ∧ Wd i σ' H, ⟨xs.length, by simp, Nat.zero_le _, R1, ρ ++ t, μ.set n (.lk (.dk kvs)), l, Sub.refl R1, List.prefix_refl _, m2, sr1, Keeps.refl _, P1⟩, ?_⟩
  rintro i m σ' H2 ⟨rfl, hi', Ri, ρi, μi, li, si, pi, mi, sri, ki, Pi⟩
  have hH : H2 b = some (.frz od (.dK ks)) := mi.fr b _ upd_same
  obtain ⟨go, stop, yld⟩ := keys_walk (R2 := Ri) kr b od hH
  rw [hxs] at go stop yld
  by_cases hlt : i < xs.length
  · refine .inr ⟨go i hlt, Wd (i + 1), fun σ'' H' w => ⟨xs.length - (i + 1), by omega, rfl, hlt, w⟩, fun x H' hy => ?_⟩
    obtain ⟨rfl, rx⟩ := yld i x H' hlt hy
    have rx := rx _ (List.getElem?_eq_getElem hlt)
    rw [List.drop_eq_getElem_cons hlt, okX_forL] at Pi
    cases eas : SW.asgP p xs[i] li with
    | none =>
      have : stepF p gb xs[i] li μi = .no := by unfold stepF; rw [eas]; rfl
      rw [this] at Pi
      exact Pi.elim
    | some l' =>
      refine pat_ok (vs := []) mi.sub p xs[i] x li l' σ' _ eas sri rx fun σ2 sr2 _ => ?_
      have hst : stepF p gb xs[i] li μi = gb l' μi := by unfold stepF; rw [eas]
      rw [hst] at Pi
      refine ⟨upd F b (.frz od (.dK ks)), Ri, ρi, l', μi, mi, sr2, ?_⟩
      cases e4 : gb l' μi with
      | no => rw [e4] at Pi; exact Pi.elim
      | exn c ν => rw [e4] at Pi; exact Pi.elim
      | ok z μ4 =>
        rw [e4] at Pi
        have k4 := ki.trans (hp l' μi z μ4 e4)
        intro R4 ρ4 H4 y s4 p4 m4 r4
        have P4 := Pi.mono s4 p4
        obtain ⟨l4, fl⟩ := z
        cases fl with
        | nx =>
          cases y with
          | inr x => exact r4.elim
          | inl σ4 => exact ⟨R4, ρ4, μ4, l4, si.trans s4, pi.trans p4, m4, r4, k4, P4⟩
        | ret v =>
          cases y with
          | inl σ4 => exact r4.elim
          | inr x => exact last R4 H4 ρ4 μ4 (l4, .ret v) (.inr x) (si.trans s4) (pi.trans p4) m4 k4 r4 P4
  · have hil : i = xs.length := by omega
    subst hil
    refine .inl ⟨stop, ?_⟩
    rw [List.drop_length] at Pi
    exact last Ri H2 ρi μi (li, .nx) (.inl σ') si pi mi ki sri Pi
end
end SWS
end
section
set_option maxRecDepth 100000
set_option maxHeartbeats 4000000
/-! Names told together, of any number; list(range(n)). -/
namespace SWS
open PySem PySem.Spec PyProof.Rows L2
open SW (PV Val MO Ky Mem Res M E OF Cn Pat Fl view flat flats ofO bin2 Srcs Keeps Pres Mode FD newO)
section
variable {X : Cx} {EC : Nat → Value} {W : WX} {pos : Pos}
theorem names_ok {K : Fg} {F R H : Hp} {ρ : List Addr} {μ : Mem} {D : Ends} {Wx : Nat → Hp → Prop} : ∀ (is : List Nat) (vs : List Val) (xs : List V) (l : SW.Loc) (σ : L2.St), MR F K R ρ μ H → SR K R ρ l σ → VRs K R ρ vs xs →
    Post F K (relFl K) Wx R ρ (SW.lift2 (SW.setAll is vs l) μ) (DQ D) → xs.length = is.length ∧ gPats K (is.map Pat.v) xs σ H D.nx
  | [], [], xs, l, σ, m, s, r, P => by
    cases r
    exact ⟨rfl, rfl, Post.nx P m s⟩
  | [], _ :: _, xs, l, σ, m, s, r, P => P.elim
  | _ :: _, [], xs, l, σ, m, s, r, P => P.elim
  | i :: is, v :: vs, xs, l, σ, m, s, r, P => by
    obtain ⟨x, ys, rfl, r1, r2⟩ := vrs_cons r
    obtain ⟨h1, h2⟩ := names_ok is vs ys (l.set i (some v)) (σ.set i (some x)) m (s.set i r1) r2 P
    exact ⟨by simp [h1], x, ys, rfl, h2⟩
theorem es_parT {is : List Nat} {ts es : List Expr} {gs : LF (List Val)} {kt k2 : Nat} {pt p2 : Pos} (hc : X.calm = true) (ha : PA X es (liftA X.K EC W gs)) (hn : ∀ l μ vs ν, gs l μ = .ok vs ν → vs.length ≤ 16777216) (hg : PGs X ts (gPats X.K (is.map Pat.v)))
    (hl : (assignEach ts X.env).length = is.length) (hst : (assignEach ts X.env).findIdx? (·.1) = none) (hw : swappedStores [.Tuple ts kt pt] (.Tuple es k2 p2) X.env = pure none) :
    PS X (.Assign [.Tuple ts kt pt] (.Tuple es k2 p2) pos) (liftS X.K EC W fun l => do let vs ← gs l; SW.lift2 (SW.setAll is vs l)) := by
  refine PS.imp (ps_asg (pe_tup ha) (pg_tup hc hg hl hst) (by rfl) hw (by rfl)) fun D σ H h => ?_
  refine lift_bindE h fun F R ρ l μ0 μ H1 vs xs e m s r P => ?_
  have hz := hn _ _ _ _ e
  obtain ⟨h1, h2⟩ := names_ok is vs xs l σ m s r P
  refine ⟨by rw [← r.length, sizeLine_eq]; exact hz, fun p hp => ?_⟩
  obtain ⟨_, h3⟩ := names_ok is vs xs l σ (m.heap (Sub.new (o := .tup xs) hp)) s r P
  exact ⟨p, xs, rfl, .inl (.inl upd_same), h1, h3⟩
theorem rg_rangeL (n : Int) : rgV 0 n = (List.range n.toNat).map fun (i : Nat) => V.int (0 + (i : Int)) := by
  unfold rgV; rw [Int.sub_zero]
theorem reps_range {K : Fg} {R : Hp} : ∀ (n : Nat) (lo : Int), Reps K R (SW.rangeL lo n) ((List.range n).map fun (i : Nat) => V.int (lo + (i : Int)))
  | 0, lo => .nil
  | n + 1, lo => by
    rw [SW.rangeL, List.range_succ_eq_map, List.map_cons, List.map_map]
    refine .cons (by rw [show lo + ((0 : Nat) : Int) = lo by simp]; exact .int lo) ?_
    have := reps_range (K := K) (R := R) n (lo + 1)
    have e : (List.range n).map ((fun (i : Nat) => V.int (lo + (i : Int))) ∘ Nat.succ) = (List.range n).map fun (i : Nat) => V.int (lo + 1 + (i : Int)) := by
      apply List.map_congr_left
      intro i _
      show V.int (lo + ((i + 1 : Nat) : Int)) = _
      congr 1; omega
    rw [e]; exact this
/-- list(range(n)) -/
theorem ev_listRange {e : Expr} {ga : LF Val} {p p2 q : Pos} (hc : X.calm = true) (hg : Gl X "list") (hm : X.mg "list" = none) (hg2 : Gl X "range") (hm2 : X.mg "range" = none) (ha : PE X e (liftE X.K EC W ga)) (hs : starEach [e] X.env = [(false, eval e X.env)]) :
    PE X (.Call (.Name "list" p) [.Call (.Name "range" p2) [e] [] q] [] pos) (liftE X.K EC W fun l => do
      let x ← ga l
      let v ← view x
      match v with
        | .int n => if decide (n ≤ 16777216) && decide (-16777216 ≤ n) then pure (Val.v (.lst (SW.rangeL 0 n.toNat))) else SW.no
        | _ => SW.no) := by
  refine PE.imp (pe_listRg hc hg hm (prg_1 hg2 hm2 ha hs)) fun σ H Q h => ?_
  refine lift_bind h fun F R ρ l μ H1 v x m s r P => ?_
  obtain ⟨pv, hq, P⟩ := view_cases m r P
  cases pv with
  | int n =>
    dsimp only at P
    split at P
    · rename_i hz
      simp only [Bool.and_eq_true, decide_eq_true_eq] at hz
      have hx := Rep.int_inv (show Rep X.K R (.int n) x from hq)
      refine ⟨n, hx, ⟨by omega, by omega, by omega, by omega, by omega⟩, fun q hq2 => ?_⟩
      rw [rg_rangeL]
      exact fresh_lst m (reps_range n.toNat 0) P q hq2
    · exact P.elim
  | _ => exact P.elim
end
end SWS
end
section
set_option maxRecDepth 100000
set_option maxHeartbeats 4000000
/-! Exceptions: raised, caught, told apart. -/
namespace SWS
open PySem PySem.Spec PyProof.Rows L2
open SW (PV Val MO Mem Res M Fl Mode)
abbrev veB : List Value := [.type "ValueError", .type "Exception", .type "BaseException", .type "object"]
/-- one exception class -/
structure XC (K : Fg) (mg : Str → Option Value) (C : Addr) (x : Str) : Prop where
  gl : mg x = some (.ref C)
  ex : PySem.W.excIn K C veB "ValueError.__new__" = true
  kp : PySem.W.keepIn K (.ref C) = true
  sb : PySem.W.subIn K (.ref C) (.type "BaseException") = some true
  ty : PySem.W.typeIn K (.ref C) = some (.type "type")
  ec : ExcC K C
  ve : PySem.W.kitOne K (.ref C) (.type "ValueError") = some true
/-- the exception classes -/
structure XF (K : Fg) (mg : Str → Option Value) (EC : Nat → Value) (xn : List Str) : Prop where
  at_ : ∀ c x, xn[c]? = some x → ∃ C, EC c = .ref C ∧ XC K mg C x
  own : ∀ c d x y, xn[c]? = some x → xn[d]? = some y → PySem.W.kitOne K (EC c) (EC d) = some (decide (c = d)) ∧ PySem.W.exmOne K (EC c) (EC d) = some (decide (c = d))
  top : xn ≠ [] → ∃ S, mg "SiteError" = some (.ref S) ∧ ∀ c x, xn[c]? = some x → PySem.W.exmOne K (EC c) (.ref S) = some true
  ve : xn ≠ [] → mg "ValueError" = none
theorem XF.nil {K : Fg} {mg : Str → Option Value} {EC : Nat → Value} : XF K mg EC [] := ⟨fun c x h => (nomatch h), fun c d x y h => (nomatch h), fun h => absurd rfl h, fun h => absurd rfl h⟩
section
variable {X : Cx} {EC : Nat → Value} {W : WX} {xn : List Str}
theorem es_raise (hc : X.calm = true) (tk : Takes X W) (F : XF X.K X.mg EC xn) {c : Nat} {x m : Str} {j : Nat} {p p2 pos pos' : Pos} (hx : xn[c]? = some x) (hg : Gl X x) (hdb : (x == ("__debug__" : Str)) = false) :
    PS X (.Raise (some (.Call (.Name x p) [.Constant (.str m) j p2] [] pos)) none pos') (liftS X.K EC W fun _ => SW.exnM c) := by
  obtain ⟨C, e, D⟩ := F.at_ c x hx
  refine PS.imp (ps_raise hc tk (pmk_own PySem.F.excBase_ValueError D.ex D.gl D.kp (raises_own D.sb D.ty) hg hdb)) fun D' σ H h => ?_
  obtain ⟨F', R, ρ, l, μ, mr, s, P⟩ := h
  have P := P R ρ H (Sub.refl R) (List.prefix_refl ρ) mr
  unfold wx at P
  rw [e] at P
  exact P
end
/-! ### the def that tells exceptions apart -/
section
def isQ (P : Nat → Pos) (i : Nat) (x : Str) : Expr := .Call (.Name "isinstance" (P i)) [.Name "_law_e" (P (i + 1)), .Name x (P (i + 2))] [] (P (i + 3))
def xWhich : List Str := ["NoDrawing", "NoPart", "NoBook", "NoJob", "NoSite", "NoPlan", "NoStarts", "NoOrder", "TooMany", "NoEvents", "NoChange", "NotStanding", "NoLog", "NoText", "Busy", "Nothing"]
/-- its text -/
def wAst (P : Nat → Pos) : List Stmt := [
  .Assign [.Name "_law_own" (P 0)] (.List [isQ P 3 "NoDrawing", isQ P 7 "NoPart", isQ P 11 "NoBook", isQ P 15 "NoJob"] (P 1)) (P 2),
  .Expr (.Call (.Attribute (.Name "_law_own" (P 19)) "extend" (P 20)) [.List [isQ P 24 "NoSite", isQ P 28 "NoPlan", isQ P 32 "NoStarts", isQ P 36 "NoOrder"] (P 21)] [] (P 22)) (P 23),
  .Expr (.Call (.Attribute (.Name "_law_own" (P 40)) "extend" (P 41)) [.List [isQ P 45 "TooMany", isQ P 49 "NoEvents", isQ P 53 "NoChange", isQ P 57 "NotStanding"] (P 42)] [] (P 43)) (P 44),
  .Expr (.Call (.Attribute (.Name "_law_own" (P 61)) "extend" (P 62)) [.List [isQ P 66 "NoLog", isQ P 70 "NoText", isQ P 74 "Busy", isQ P 78 "Nothing"] (P 63)] [] (P 64)) (P 65),
  .If (.BoolOp .Or [.Compare (.Call (.Attribute (.Name "_law_own" (P 82)) "count" (P 83)) [.Constant (.bool true) 0 (P 84)] [] (P 85)) [.NotEq] [.Constant (.int 1) 0 (P 86)] (P 87), .UnaryOp .Not (isQ P 88 "ValueError") (P 92)] (P 93))
    [.Return (some (.Tuple [.Constant (.str "refused") 0 (P 94), .UnaryOp .USub (.Constant (.int 1) 0 (P 95)) (P 96)] 0 (P 97))) (P 98)] [] (P 99),
  .Return (some (.Tuple [.Constant (.str "refused") 0 (P 100), .Call (.Attribute (.Name "_law_own" (P 101)) "index" (P 102)) [.Constant (.bool true) 0 (P 103)] [] (P 104)] 0 (P 105))) (P 106)]
/-- its places that are to stand on one line -/
def lineB (P : Nat → Pos) : Bool := decide ((P 20).endLine = (P 22).line) && (decide ((P 41).endLine = (P 43).line) && (decide ((P 62).endLine = (P 64).line) && (decide ((P 83).endLine = (P 85).line) && decide ((P 102).endLine = (P 104).line))))
variable {X : Cx} {EC : Nat → Value} {a : Addr} {oe : Obj} {c : Nat} {x : Str}
theorem pe_isQ (F : XF X.K X.mg EC xWhich) (hx : xWhich[c]? = some x) (hz : Zc (EC c) none oe) (hf : ∃ vs, oe.data = .fields vs) (mi : X.mg "isinstance" = none) (gi : Gl X "isinstance") (hN : X.N[0]? = some ("_law_e" : Str)) (hv : X.env.scope.names.lookup ("_law_e" : Str) = some .local)
    {d : Nat} {y : Str} (hy : xWhich[d]? = some y) (gy : Gl X y) (hdb : (y == ("__debug__" : Str)) = false) (P : Nat → Pos) (i : Nat) : PE (X.suite a [(a, oe)]) (isQ P i y) (fun σ H Q => σ[0]? = some (some (.ref a)) ∧ Q (.bl (decide (c = d))) H) := by
  obtain ⟨C, eC, XC⟩ := F.at_ c x hx
  obtain ⟨D, eD, XD⟩ := F.at_ d y hy
  rw [eC] at hz
  have k := (F.own c d x y hx hy).1
  rw [eC, eD] at k
  refine PE.imp (pe_callB (X := X.suite a [(a, oe)]) (call_isE (X := X) XC.ec hz hf) gi mi PyProof.Rows.boot_isinstance (pa_cons (pe_var (i := 0) hN (.inl hv)) (pa_cons (pe_glob gy XD.gl (v := .ref D) rfl hdb) pa_nil))) fun σ H Q h => ?_
  exact ⟨.ref a, h.1, .ref D, .ref D, _, rfl, fun u hu => hu, k, h.2⟩
theorem pe_isV (F : XF X.K X.mg EC xWhich) (hx : xWhich[c]? = some x) (hz : Zc (EC c) none oe) (hf : ∃ vs, oe.data = .fields vs) (mi : X.mg "isinstance" = none) (gi : Gl X "isinstance") (gv : Gl X "ValueError") (hN : X.N[0]? = some ("_law_e" : Str)) (hv : X.env.scope.names.lookup ("_law_e" : Str) = some .local)
    (P : Nat → Pos) (i : Nat) : PE (X.suite a [(a, oe)]) (isQ P i "ValueError") (fun σ H Q => σ[0]? = some (some (.ref a)) ∧ Q (.bl true) H) := by
  obtain ⟨C, eC, XC⟩ := F.at_ c x hx
  rw [eC] at hz
  refine PE.imp (pe_callB (X := X.suite a [(a, oe)]) (call_isE (X := X) XC.ec hz hf) gi mi PyProof.Rows.boot_isinstance (pa_cons (pe_var (i := 0) hN (.inl hv)) (pa_cons (pe_bltn gv (F.ve (by simp [xWhich])) (u := .type "ValueError") (by decide +kernel) (v := .ty "ValueError") rfl) pa_nil))) fun σ H Q h => ?_
  exact ⟨.ref a, h.1, .ty "ValueError", .type "ValueError", _, rfl, fun u hu => hu, XC.ve, h.2⟩
end
end SWS
end
section
set_option maxRecDepth 100000
set_option maxHeartbeats 4000000
/-! What the telling def answers. -/
namespace SWS
open PySem PySem.Spec PyProof.Rows L2
open SW (PV Val MO Mem Res M Fl Mode)
/-- all but l's is kept -/
def SubBut (l : Addr) (H H' : Hp) : Prop := ∀ b o, b ≠ l → H b = some o → H' b = some o
theorem SubBut.refl (l : Addr) (H : Hp) : SubBut l H H := fun _ _ _ h => h
theorem SubBut.trans {l : Addr} {H H' H'' : Hp} (h : SubBut l H H') (h' : SubBut l H' H'') : SubBut l H H'' := fun b o n e => h' b o n (h b o n e)
theorem SubBut.new {l p : Addr} {H : Hp} {o : HO} (h : H p = none) : SubBut l H (upd H p o) := fun b u _ e => by
  rw [upd_ne (ne_of_none e h)]; exact e
theorem SubBut.put {l : Addr} {H : Hp} {o : HO} : SubBut l H (upd H l o) := fun b u n e => by
  rw [upd_ne n]; exact e
/-- answers by number, from the i-th on -/
def ansB (c i : Nat) : Nat → List Bool
  | 0 => []
  | n + 1 => decide (c = i) :: ansB c (i + 1) n
abbrev vB (bs : List Bool) : List V := bs.map V.bl
theorem reps_bl {K : Fg} {R : Hp} : ∀ bs : List Bool, Reps K R (bs.map PV.bl) (vB bs)
  | [] => .nil
  | b :: bs => .cons (.bl b) (reps_bl bs)
section
variable {X : Cx} {EC : Nat → Value} {a : Addr} {oe : Obj} {c : Nat} {x : Str}
/-- the context, and what is known there -/
structure WX0 (X : Cx) (EC : Nat → Value) (c : Nat) (oe : Obj) (x : Str) : Prop where
  F : XF X.K X.mg EC xWhich
  hx : xWhich[c]? = some x
  hz : Zc (EC c) none oe
  hf : ∃ vs, oe.data = .fields vs
  mi : X.mg "isinstance" = none
  gl : ∀ y, y ∈ xWhich ∨ y = "isinstance" ∨ y = "ValueError" → Gl X y
  hN : X.N = (["_law_e", "_law_own"] : List Str)
  he : X.env.scope.names.lookup ("_law_e" : Str) = some .local
  ho : X.env.scope.names.lookup ("_law_own" : Str) = some .local
  hu : X.A.units + 100 < cLine
theorem WX0.q (h : WX0 X EC c oe x) {d : Nat} {y : Str} (hy : xWhich[d]? = some y) (P : Nat → Pos) (i : Nat) : PE (X.suite a [(a, oe)]) (isQ P i y) (fun σ H Q => σ[0]? = some (some (.ref a)) ∧ Q (.bl (decide (c = d))) H) := by
  refine pe_isQ h.F h.hx h.hz h.hf h.mi (h.gl _ (.inr (.inl rfl))) (by rw [h.hN]; rfl) h.he hy (h.gl _ (.inl (List.mem_of_getElem? hy))) ?_ P i
  have hm := List.mem_of_getElem? hy
  simp only [xWhich, List.mem_cons, List.not_mem_nil, or_false] at hm
  rcases hm with rfl | rfl | rfl | rfl | rfl | rfl | rfl | rfl | rfl | rfl | rfl | rfl | rfl | rfl | rfl | rfl <;> decide
/-- four of them, in a list -/
theorem WX0.q4 (h : WX0 X EC c oe x) (d : Nat) {y0 y1 y2 y3 : Str} (h0 : xWhich[d]? = some y0) (h1 : xWhich[d + 1]? = some y1) (h2 : xWhich[d + 2]? = some y2) (h3 : xWhich[d + 3]? = some y3) (P : Nat → Pos) (i0 i1 i2 i3 : Nat) {pos : Pos} :
    PE (X.suite a [(a, oe)]) (.List [isQ P i0 y0, isQ P i1 y1, isQ P i2 y2, isQ P i3 y3] pos) (fun σ H Q => σ[0]? = some (some (.ref a)) ∧ ∀ p, H p = none → Q (.ref p) (upd H p (.lst (vB (ansB c d 4))))) := by
  refine PE.imp (pe_lst (pa_cons (h.q h0 P i0) (pa_cons (h.q h1 P i1) (pa_cons (h.q h2 P i2) (pa_cons (h.q h3 P i3) pa_nil))))) fun σ H Q q => ?_
  exact ⟨q.1, q.1, q.1, q.1, by show 4 ≤ sizeLine; decide, q.2⟩
theorem WX0.own (h : WX0 X EC c oe x) {pos : Pos} : PE (X.suite a [(a, oe)]) (.Name "_law_own" pos) (tVar 1) := pe_var (i := 1) (by show X.N[1]? = _; rw [h.hN]; rfl) (.inl h.ho)
theorem WX0.ext (h : WX0 X EC c oe x) (d : Nat) {y0 y1 y2 y3 : Str} (h0 : xWhich[d]? = some y0) (h1 : xWhich[d + 1]? = some y1) (h2 : xWhich[d + 2]? = some y2) (h3 : xWhich[d + 3]? = some y3) (P : Nat → Pos) (i0 i1 i2 i3 : Nat) {p0 p1 p2 p3 p4 : Pos} (hl : p1.endLine = p3.line) :
    PS (X.suite a [(a, oe)]) (.Expr (.Call (.Attribute (.Name "_law_own" p0) "extend" p1) [.List [isQ P i0 y0, isQ P i1 y1, isQ P i2 y2, isQ P i3 y3] p2] [] p3) p4)
      (fun D σ H => σ[0]? = some (some (.ref a)) ∧ ∃ l bs, σ[1]? = some (some (.ref l)) ∧ H l = some (.lst (vB bs)) ∧ bs.length ≤ 12 ∧ ∀ H', SubBut l H H' → H' l = some (.lst (vB (bs ++ ansB c d 4))) → D.nx σ H') := by
  refine PS.imp (ps_expr (pe_bm PySem.F.plainAttrs_list PySem.F.slot_list_extend PySem.F.type_list_extend mt_extend h.own (pa_cons (h.q4 d h0 h1 h2 h3 P i0 i1 i2 i3) pa_nil) (hline := by simp [hl]))) fun D σ H q => ?_
  obtain ⟨q0, l, bs, q1, q2, q3, q4⟩ := q
  refine ⟨.ref l, q1, .inl ⟨rfl, _, .inl (.inl q2)⟩, q0, fun p hp => ?_⟩
  have hlp : l ≠ p := ne_of_none q2 hp
  refine ⟨l, p, vB bs, vB (ansB c d 4), rfl, rfl, by rw [upd_ne hlp]; exact q2, upd_same, ?_, q4 _ ((SubBut.new hp).trans SubBut.put) ?_⟩
  · have e : (ansB c d 4).length = 4 := rfl
    rw [List.length_map, List.length_map, e, sizeLine_eq]; omega
  · rw [upd_same, vB, vB, vB, List.map_append]
theorem ans_count (c : Nat) (hc : c < 16) : SW.countI (.bl true) ((ansB c 0 16).map PV.bl) = 1 := by
  have : ∀ c, c < 16 → SW.countI (.bl true) ((ansB c 0 16).map PV.bl) = 1 := by decide
  exact this c hc
theorem ans_find (c : Nat) (hc : c < 16) : SW.findI (.bl true) ((ansB c 0 16).map PV.bl) 0 = some c := by
  have : ∀ c, c < 16 → SW.findI (.bl true) ((ansB c 0 16).map PV.bl) 0 = some c := by decide
  exact this c hc
theorem which_body (h : WX0 X EC c oe x) (P : Nat → Pos) (hP : lineB P = true) : PSs (X.suite a [(a, oe)]) (wAst P)
    (fun D σ H => σ[0]? = some (some (.ref a)) ∧ σ.length = 2 ∧ ∀ H1 p, Sub H H1 → H1 p = none → D.rt (.ref p) (upd H1 p (.tup [.str "refused", .int c]))) := by
  have hc : c < 16 := (List.getElem?_eq_some_iff.mp h.hx).1
  unfold lineB at hP
  simp only [Bool.and_eq_true, decide_eq_true_eq] at hP
  obtain ⟨l1, l2, l3, l4, l5⟩ := hP
  have nd : (X.suite a [(a, oe)]).N.Nodup := by
    show X.N.Nodup
    rw [h.hN]; decide
  have hu : (X.suite a [(a, oe)]).A.units + 100 < cLine := h.hu
  refine PSs.imp (pss_cons (ps_set (i := 1) nd (by show X.N[1]? = _; rw [h.hN]; rfl) (.inl h.ho) (h.q4 0 rfl rfl rfl rfl P 3 7 11 15) (hf := .inr h.ho))
    (pss_cons (h.ext 4 rfl rfl rfl rfl P 24 28 32 36 l1) (pss_cons (h.ext 8 rfl rfl rfl rfl P 45 49 53 57 l2) (pss_cons (h.ext 12 rfl rfl rfl rfl P 66 70 74 78 l3)
    (pss_cons (ps_if (pw_or (pt_cmpR op_ne (pe_bm PySem.F.plainAttrs_list PySem.F.slot_list_count PySem.F.type_list_count (mt_countP hu) h.own (pa_cons pe_bl pa_nil) (hline := by simp [l4])) pe_int (nomark _))
        (pw_or1 (pt_not (pt_val (pe_isV h.F h.hx h.hz h.hf h.mi (h.gl _ (.inr (.inl rfl))) (h.gl _ (.inr (.inr rfl))) (by rw [h.hN]; rfl) h.he P 88))))).pt
      (pss_one ps_never) pss_nil)
    (pss_one (ps_ret (pe_tup (pa_cons pe_str (pa_cons (pe_bm PySem.F.plainAttrs_list PySem.F.slot_list_index PySem.F.type_list_index (mt_indexP hu) h.own (pa_cons pe_bl pa_nil) (hline := by simp [l5])) pa_nil)))))))))) fun D σ H q => ?_
  obtain ⟨q0, q1, q2⟩ := q
  refine ⟨q0, fun l hl => ?_⟩
  have s0 : (σ.set 1 (some (.ref l)))[0]? = some (some (.ref a)) := by rw [List.getElem?_set_ne (by decide)]; exact q0
  have s1 : (σ.set 1 (some (.ref l)))[1]? = some (some (.ref l)) := List.getElem?_set_self (by omega)
  refine ⟨s0, l, _, s1, upd_same, by simp [ansB], fun H1 k1 g1 => ?_⟩
  refine ⟨s0, l, _, s1, g1, by simp [ansB], fun H2 k2 g2 => ?_⟩
  refine ⟨s0, l, _, s1, g2, by simp [ansB], fun H3 k3 g3 => ?_⟩
  have g3 : H3 l = some (.lst (vB (ansB c 0 16))) := g3
  have sub : Sub H H3 := fun b o e => by
    have hb : b ≠ l := ne_of_none e hl
    exact k3 b o hb (k2 b o hb (k1 b o hb (by rw [upd_ne hb]; exact e)))
  refine ⟨.ref l, s1, .inl ⟨rfl, _, .inl (.inl g3)⟩, l, _, _, .bl true, .bl true, rfl, rfl, .inl (.inl g3), reps_bl _, .bl true, rfl, ?_⟩
  rw [ans_count c hc]
  refine ⟨rfl, false, rfl, iteF ?_⟩
  refine ⟨s0, true, rfl, iteF ?_⟩
  refine ⟨.ref l, s1, .inl ⟨rfl, _, .inl (.inl g3)⟩, l, _, _, .bl true, .bl true, c, rfl, rfl, .inl (.inl g3), reps_bl _, .bl true, rfl, ans_find c hc, by show 2 ≤ sizeLine; decide, fun p hp => ?_⟩
  exact q2 H3 p sub hp
end
end SWS
end
section
set_option maxRecDepth 100000
set_option maxHeartbeats 4000000
/-! The telling def called in an except suite. -/
namespace SWS
open PySem PySem.Spec PyProof.Rows L2
open SW (PV Val MO Mem Res M Fl Mode)
theorem mark_self {A : Around} {v : Value} (h : A.handled = some v) : A.mark (some v) = A := by
  obtain ⟨hd, d, f, g, u⟩ := A
  cases h
  rfl
section
variable {P : Program} {w : World} {K : Fg} {mg : Str → Option Value} {base : Heap} {N ps : List Str} {qual name : Str} {scope : Scope} {f a : Addr} {cdv dV kV doc pm ct oc : Value} {an od : Option Addr} {osl : Array (Option Value)} {params : Arguments} {body : List Stmt}
  {A : Around} {outer : List Env} {s : Shared} {H : Hp} {E : XK} {us : List Value} {vs : List V} {oe : Obj} {Q : VK} {args : Args} {t : TS}
/-- a body walked where an exception is handled -/
theorem hot_run (lk : K.lookup f = some ⟨oc, od, .func (PySem.W.fnOf name qual params body scope dV kV doc pm an cdv ct), osl⟩) (hcd : PySem.W.codeIn K cdv qual = true) (S : FnScope N ps scope)
    (dp : A.depth < recursionLimit) (hh : A.handled = some (.ref a)) (pin : L2H.PinOk outer H s (a, oe)) (e0 : Env0 P w K mg base A outer s H)
    (hb : BindsTo s (PySem.W.fnOf name qual params body scope dV kV doc pm an cdv ct) args (ps.zip us)) (r : Vals vs us) (hl : vs.length = ps.length)
    (ht : PSs ((L2H.cxH (CX P w) P w K mg base N qual scope f cdv A outer s H E (a, oe)).suite a [(a, oe)]) body t) (hq : t { nx := fun _ H' => Q .non H', rt := Q } (L2.start N vs) H) :
    codeAny (model P w) A (.call (.ref f) args) (CR (CX P w) outer P w H s Q E) s := by
  have hkin : K.In s.heap := e0.mod.kin.keeps fun b o e => (e0.bs b o e).1
  have hlim : s.heap.NoLimit := e0.mod.nolimit.keeps fun b o e => (e0.bs b o e).1
  have kinds : ∀ y ∈ ps.zip us, scope.names.lookup y.1 = some .local ∨ (scope.names.lookup y.1 = some .cell ∧ ((cellsFrom (s.heap.objs.size + 1) scope.names []).lookup y.1).isSome = true) := by
    rintro ⟨n, v⟩ hy
    cases S.par n (List.of_mem_zip hy).1 with
    | inl q => exact .inl q
    | inr q => exact .inr ⟨q, PySem.W.cellsFrom_some _ _ _ (.inl q)⟩
  have rec_ := PySem.W.codeRec_of hkin hcd
  refine codeAny_call_function dp (hkin _ _ lk) rfl S.co S.gen rfl rec_ (hb _ _ _ _ ?_)
  refine wpAny_newFunctionEnv_cells S.kind kinds fun env he s1 x => ?_
  subst he
  refine ⟨hlim.keeps x.toInCall.keep, codeAny_func ?_⟩
  have I0 := L2H.inv_startH (E := E) (CX := CX P w) (qual := qual) (f := f) (cd := cdv) S pin e0 hl r x
  have eA : (L2H.cxH (CX P w) P w K mg base N qual scope f cdv A outer s H E (a, oe)).A.mark (some (.ref a)) = (L2H.cxH (CX P w) P w K mg base N qual scope f cdv A outer s H E (a, oe)).A := mark_self (show (A.deeper _).handled = some (.ref a) from hh)
  have I : Inv ((L2H.cxH (CX P w) P w K mg base N qual scope f cdv A outer s H E (a, oe)).suite a [(a, oe)]) [] (L2.start N vs) H s1 :=
    ⟨I0.ok.suite _ _, I0.os, I0.bare, I0.base, I0.loc, I0.cell, I0.free, I0.freeC, I0.pin, I0.hok, I0.len⟩
  have z := ht.run [] s1 (L2.start N vs) H _ I hq
  have eA2 : ((L2H.cxH (CX P w) P w K mg base N qual scope f cdv A outer s H E (a, oe)).suite a [(a, oe)]).A = A.deeper (envOfC qual scope s.heap.objs.size f cdv) := eA
  rw [eA2] at z
  refine wpAny_mono z (fun fl s' hs => ?_) fun e s' hs => False.elim hs
  have fin : ∀ {σ' : L2.St} {H' : Hp} {v : V} {u : Value}, Inv ((L2H.cxH (CX P w) P w K mg base N qual scope f cdv A outer s H E (a, oe)).suite a [(a, oe)]) [] σ' H' s' → RelV v u → Q v H' → CE outer P w H s Q u s' := by
    intro σ' H' v u J rv q
    exact ⟨v, H', J.os, J.bare, J.base, J.hok, rv, q⟩
  cases fl with
  | next =>
    obtain ⟨σ', H', J, q⟩ := hs
    exact fin (v := V.non) (u := Value.none) J rfl q
  | ret u =>
    obtain ⟨v, σ', H', J, rv, q⟩ := hs
    exact fin J rv q
  | brk => obtain ⟨_, _, _, q⟩ := hs; exact q.elim
  | cont => obtain ⟨_, _, _, q⟩ := hs; exact q.elim
end
/-- the telling def stands in the module -/
structure WhAt (P : Program) (w : World) (K : Fg) (mg : Str → Option Value) (base : Heap) (EC : Nat → Value) : Prop where
  at_ : ∃ (f : Addr) (fd : FuncData), mg "_law_which" = some (.ref f) ∧ PySem.W.keepIn K (.ref f) = true ∧ Binds K fd ["_law_e"] [] ∧
    ∀ (A : Around) (outer : List Env) (s : Shared) (H : Hp) (args : Args) (us : List Value) (Q : VK) (E : XK) (a : Addr) (oe : Obj) (c : Nat) (x : Str), A.depth < recursionLimit → A.units + 103 < cLine → A.handled = some (.ref a) → L2H.PinOk outer H s (a, oe) →
      xWhich[c]? = some x → Zc (EC c) none oe → (∃ vs, oe.data = .fields vs) → Env0 P w K mg base A outer s H → BindsTo s fd args ((["_law_e"] : List Str).zip us) → Vals [.ref a] us →
      (∀ H1 p, Sub H H1 → H1 p = none → Q (.ref p) (upd H1 p (.tup [.str "refused", .int c]))) → codeAny (model P w) A (.call (.ref f) args) (CR (CX P w) outer P w H s Q E) s
/-- the def's scope -/
def whScB (scope : Scope) : Bool := C8.scC ["_law_e", "_law_own"] ["_law_e"] scope && ((match scope.names.lookup ("_law_e" : Str) with | some .local => true | _ => false) && ((match scope.names.lookup ("_law_own" : Str) with | some .local => true | _ => false) &&
  (("isinstance" :: "ValueError" :: xWhich : List Str).all fun y => match scope.names.lookup y with | some .globalImplicit => true | _ => false)))
theorem whAt_of {P : Program} {w : World} {K : Fg} {mg : Str → Option Value} {base : Heap} {EC : Nat → Value} (F : XF K mg EC xWhich) (mi : mg "isinstance" = none) {f : Addr} {fd : FuncData} {name qual : Str} {params : Arguments} {body : List Stmt} {scope : Scope} (D : FunD K name qual params body scope [] [] f fd) (hm : mg "_law_which" = some (.ref f))
    (hb : Binds K fd ["_law_e"] []) {pos : Nat → Pos} (e : body = wAst pos) (hl : lineB pos = true) (hs : whScB scope = true) : WhAt P w K mg base EC := by
  obtain ⟨oc, od, dV, kV, doc, pm, an, cdv, ct, osl, rfl, lk, hcd, _, _⟩ := D.ex
  unfold whScB at hs
  simp only [Bool.and_eq_true] at hs
  obtain ⟨h1, h2, h3, h4⟩ := hs
  have S := C8.fnScope_by h1
  refine ⟨f, _, hm, D.kp, hb, fun A outer s H args us Q E a oe c x dp un hh pin hx hz hf e0 hb r q => ?_⟩
  subst e
  refine hot_run lk hcd S dp hh pin e0 hb r rfl (which_body (x := x) (c := c) (EC := EC) ⟨F, hx, hz, hf, mi, fun y hy => ?_, rfl, ?_, ?_, ?_⟩ pos hl) ⟨rfl, rfl, q⟩
  · have hy : y ∈ ("isinstance" :: "ValueError" :: xWhich : List Str) := by
      rcases hy with h | rfl | rfl
      · exact List.mem_cons_of_mem _ (List.mem_cons_of_mem _ h)
      · exact List.mem_cons_self
      · exact List.mem_cons_of_mem _ List.mem_cons_self
    have := List.all_eq_true.mp h4 y hy
    show scope.names.lookup y = some .globalImplicit
    split at this
    · assumption
    · cases this
  · show scope.names.lookup ("_law_e" : Str) = some .local
    split at h2
    · assumption
    · cases h2
  · show scope.names.lookup ("_law_own" : Str) = some .local
    split at h3
    · assumption
    · cases h3
  · show A.units + 3 + 100 < cLine
    omega
end SWS
end
section
set_option maxRecDepth 100000
set_option maxHeartbeats 4000000
/-! try and except. -/
namespace SWS
open PySem PySem.Spec PyProof.Rows L2
open SW (PV Val MO Mem Res M Fl Mode)
section
variable {X : Cx} {EC : Nat → Value} {W : WX} {n : Str} {i : Nat} {a : Addr} {oe : Obj} {pn : List (Addr × Obj)} {c : Nat} {x : Str}
theorem pe_which (WH : WhAt X.prog X.w X.K X.mg X.base EC) (gw : Gl X "_law_which") (hi : X.N[i]? = some n) (hln : X.env.scope.names.lookup n = some .local) (hd1 : (n == ("__debug__" : Str)) = false) (hd2 : (n == ("__classdict__" : Str)) = false) (dp : X.A.depth < recursionLimit) (un : X.A.units + 103 < cLine) (hx : xWhich[c]? = some x) (hz : Zc (EC c) none oe) (hf : ∃ vs, oe.data = .fields vs)
    {p1 p2 p3 : Pos} : PE (X.suite a ((a, oe) :: pn)) (.Call (.Name "_law_which" p1) [.Name n p2] [] p3)
      (fun σ H Q => σ[i]? = some (some (.ref a)) ∧ ∀ H1 p, Sub H H1 → H1 p = none → Q (.ref p) (upd H1 p (.tup [.str "refused", .int c]))) := by
  obtain ⟨f, fd, hm, hk, hb, hrun⟩ := WH.at_
  refine ⟨fun pins s σ H Q I h => ?_⟩
  have ha : PA (X.suite a ((a, oe) :: pn)) [.Name n p2] (tCons (tVar i) tNil) := pa_cons (pe_var (i := i) hi (.inl hln) hd1 hd2) pa_nil
  refine wpAny_Call_Name_kw (ld_glob (X := X.suite a ((a, oe) :: pn)) I gw hm ?_ (by decide))
  refine PySem.W.callWith_K (h₀ := X.base) I.ok.mod.kin hk (thn (ha.run p3 pins s σ H (fun vs H1 => vs = [V.ref a] ∧ H1 = H) I ⟨_, h.1, rfl, rfl⟩) fun us s1 hh => ?_)
  obtain ⟨vs, H1, I1, r, e1, e2⟩ := hh
  subst e1 e2
  refine ⟨I1.kIn, ?_⟩
  have hl : us.length = 1 := by rw [← r.length]; rfl
  have b := hb s1 us I1.kIn (by rw [List.append_nil]; exact hl)
  rw [List.append_nil] at b
  have P1 := I1.pin (a, oe) (List.mem_append_left _ List.mem_cons_self)
  have hpin : L2H.PinOk (X.suite a ((a, oe) :: pn)).stack H1 s1 (a, oe) := ⟨P1.1, P1.2.1, fun hm => (List.mem_cons.mp (I1.stkSub a hm)).elim P1.2.2.1 P1.2.2.2.1, P1.2.2.2.2⟩
  refine wpAny_call (codeAny_mono (hrun (X.suite a ((a, oe) :: pn)).A (X.suite a ((a, oe) :: pn)).stack s1 H1 ⟨us, []⟩ us Q (fun _ _ _ => False) a oe c x dp un rfl hpin hx hz hf I1.env0 b r h.2) fun res s' hq => ?_)
  cases res with
  | error e =>
    obtain ⟨_, _, _, _, _, _, _, _, _, _, _, _, z⟩ := hq
    exact z.elim
  | ok fl =>
    cases fl with
    | ret u => exact I1.after hq
    | next => exact False.elim hq
    | brk => exact False.elim hq
    | cont => exact False.elim hq
/-- what the suite of the telling clause wishes -/
def tsW (EC : Nat → Value) (i : Nat) (a : Addr) (cls : Value) (d : Option Addr) : TS := fun D σ H => d = none ∧ (i < σ.length → σ[i]? = some (some (.ref a))) ∧ ∃ c x, xWhich[c]? = some x ∧ cls = EC c ∧ ∀ H1 p, Sub H H1 → H1 p = none → D.rt (.ref p) (upd H1 p (.tup [.str "refused", .int c]))
theorem wAs_ok {K : Fg} {cS : Value} {D : Ends} (hW : WOk W) : WOk (wAs K cS i (tsW EC i) W D) := by
  intro e d σ σ' H h
  obtain ⟨b, h1, h2, h3⟩ := h
  refine ⟨b, h1, fun hb a ha => ?_, fun hb => hW _ _ _ _ _ (h3 hb)⟩
  obtain ⟨q1, q2, q3⟩ := h2 hb a ha
  exact ⟨q1, fun hi => List.getElem?_set_self (by simpa using hi), q3⟩
variable {body : List Stmt} {gb : LF (SW.Loc × Fl)}
theorem es_tryW (hs : X.stack = X.env :: X.outer) (hf : X.env.frame = some X.env.locals) (nd : X.N.Nodup) (hi : X.N[i]? = some n) (hln : X.env.scope.names.lookup n = some .local) (hd1 : (n == ("__debug__" : Str)) = false) (hd2 : (n == ("__classdict__" : Str)) = false)
    (F : XF X.K X.mg EC xWhich) (gS : Gl X "SiteError") (WH : WhAt X.prog X.w X.K X.mg X.base EC) (gw : Gl X "_law_which") (dp : X.A.depth < recursionLimit) (un : X.A.units + 103 < cLine) (tk : Takes X W) (hW : WOk W)
    (hb : ∀ (W' : WX) (pn : List (Addr × Obj)) (xe : Value → Shared → Prop), WOk W' → Takes (X.tr pn xe) W' → PassesOwn (model X.prog X.w) X.A X.env xe → PSs (X.tr pn xe) body (liftS X.K EC W' gb)) {np p1 p2 p3 p4 pos' pos : Pos} :
    PS X (.Try body [.ExceptHandler (some (.Name "SiteError" np)) (some n) [.Return (some (.Call (.Name "_law_which" p1) [.Name n p2] [] p3)) p4] pos'] [] [] pos) (liftS X.K EC W fun l => SW.catchM 16 none none l (gb l)) := by
  obtain ⟨S, gS', hS⟩ := F.top (by simp [xWhich])
  refine PS.imp (ps_try_as (i := i) (tb := fun W' D σ H => WOk W' ∧ liftS X.K EC W' gb D σ H) (ts := tsW EC i) hs hf nd hi hln ⟨gS, by decide, .inl gS'⟩ tk (fun W' pn xe tk' ps => ⟨fun pins s σ H D I h => (hb W' pn xe h.1 tk' ps).run pins s σ H D I h.2⟩) (fun a oe cls d pn hz hfs => ⟨fun pins s σ H D I h => ?_⟩)) fun D σ H h => ?_
  · obtain ⟨rfl, h1, c, x, hx, rfl, h3⟩ := h
    have hlt : i < σ.length := by
      rw [I.len]
      exact (List.getElem?_eq_some_iff.mp hi).1
    exact (pss_one (ps_ret (pe_which WH gw hi hln hd1 hd2 dp un hx hz hfs))).run pins s σ H D I ⟨h1 hlt, h3⟩
  · refine ⟨wAs_ok hW, ?_⟩
    obtain ⟨F', R, ρ, l, μ, mr, sr, P⟩ := h
    refine ⟨F', R, ρ, l, μ, mr, sr, ?_⟩
    have P : Post F' X.K (relFl X.K) (wx EC W σ) R ρ (SW.catchM 16 none none l (gb l) μ) (DQ D) := P
    unfold SW.catchM at P
    show Post F' X.K (relFl X.K) _ R ρ (gb l μ) (DQ D)
    cases e : gb l μ with
    | no => rw [e] at P; exact P.elim
    | ok z ν => rw [e] at P; exact P
    | exn c ν =>
      rw [e] at P
      dsimp only at P
      split at P
      · rename_i hc
        rw [Bool.and_eq_true] at hc
        have hc : c < 16 := Nat.le_of_ble_eq_true hc.1
        have hx : xWhich[c]? = some (xWhich[c]'hc) := List.getElem?_eq_getElem hc
        intro R' ρ' H' s p m'
        refine ⟨true, hS c _ hx, fun _ a ha => ⟨rfl, fun hlt => List.getElem?_set_self (by simpa using hlt), c, _, hx, rfl, fun H1 q sub hq => ?_⟩, fun q => nomatch q⟩
        obtain ⟨m2, s2⟩ := (m'.heap sub).frozen (o := .tup [.str "refused", .int c]) hq
        refine P _ ρ' _ (.inr (.ref q)) (s.trans s2) p m2 ?_
        exact Rep.tup (.inl (.inl upd_same)) (.cons (.str SW.wordX) (.cons (.int c) .nil))
      · exact P.elim
/-! a clause that hands back a constant -/
def cV : PV → V
  | .bl b => .bl b
  | _ => .non
def constPV : PV → Bool
  | .bl _ => true
  | .non => true
  | _ => false
theorem cV_rep {K : Fg} {R : Hp} {p : PV} (h : constPV p = true) : Rep K R p (cV p) := by
  cases p with
  | non => exact .non
  | bl b => exact .bl b
  | _ => cases h
theorem wOnly_ok {K : Fg} {cS : Value} {D : Ends} {v : V} (hW : WOk W) : WOk (wOnly K cS (fun _ _ _ D _ H => D.rt v H) W D) := by
  intro e d σ σ' H h
  obtain ⟨b, h1, h2, h3⟩ := h
  exact ⟨b, h1, fun hb a ha => h2 hb a ha, fun hb => hW _ _ _ _ _ (h3 hb)⟩
variable {xn : List Str}
theorem es_tryC {r : PV} (hr : constPV r = true) {k : Option Nat} (hs : X.stack = X.env :: X.outer) (hf : X.env.frame = some X.env.locals) (F : XF X.K X.mg EC xn) (ne : xn ≠ []) (hk : (k = none ∧ n = "SiteError") ∨ ∃ d, k = some d ∧ xn[d]? = some n) (gS : Gl X n) (hd : (n == ("__debug__" : Str)) = false)
    (tk : Takes X W) (hW : WOk W) {e : Expr} (he : ∀ Y : Cx, PE Y e (tC (cV r)))
    (hb : ∀ (W' : WX) (pn : List (Addr × Obj)) (xe : Value → Shared → Prop), WOk W' → Takes (X.tr pn xe) W' → PassesOwn (model X.prog X.w) X.A X.env xe → PSs (X.tr pn xe) body (liftS X.K EC W' gb)) {np p4 pos' pos : Pos} :
    PS X (.Try body [.ExceptHandler (some (.Name n np)) none [.Return (some e) p4] pos'] [] [] pos) (liftS X.K EC W fun l => SW.catchM xn.length k (some r) l (gb l)) := by
  obtain ⟨S, gS', hS⟩ : ∃ S, X.mg n = some S ∧ ∀ c x, xn[c]? = some x → PySem.W.exmOne X.K (EC c) S = some (match k with | none => true | some d => decide (c = d)) := by
    rcases hk with ⟨rfl, rfl⟩ | ⟨d, rfl, hx⟩
    · obtain ⟨S, h1, h2⟩ := F.top ne
      exact ⟨_, h1, h2⟩
    · obtain ⟨D, h1, h2⟩ := F.at_ d n hx
      exact ⟨_, h2.gl, fun c x hc => by rw [← h1]; exact (F.own c d x n hc hx).2⟩
  refine PS.imp (ps_try_only (c := S) (tb := fun W' D σ H => WOk W' ∧ liftS X.K EC W' gb D σ H) (ts := fun _ _ _ D _ H => D.rt (cV r) H) hs hf ⟨gS, hd, .inl gS'⟩ tk (fun W' pn xe tk' ps => ⟨fun pins s σ H D I h => (hb W' pn xe h.1 tk' ps).run pins s σ H D I h.2⟩) (fun a oe cls d pn hz hfs => pss_one (ps_ret (he _)))) fun D σ H h => ?_
  refine ⟨wOnly_ok hW, ?_⟩
  obtain ⟨F', R, ρ, l, μ, mr, sr, P⟩ := h
  refine ⟨F', R, ρ, l, μ, mr, sr, ?_⟩
  have P : Post F' X.K (relFl X.K) (wx EC W σ) R ρ (SW.catchM xn.length k (some r) l (gb l) μ) (DQ D) := P
  unfold SW.catchM at P
  show Post F' X.K (relFl X.K) _ R ρ (gb l μ) (DQ D)
  cases e : gb l μ with
  | no => rw [e] at P; exact P.elim
  | ok z ν => rw [e] at P; exact P
  | exn c ν =>
    rw [e] at P
    dsimp only at P
    split at P
    · rename_i hc
      rw [Bool.and_eq_true] at hc
      have hc : c < xn.length := Nat.le_of_ble_eq_true hc.1
      have hx : xn[c]? = some (xn[c]'hc) := List.getElem?_eq_getElem hc
      intro R' ρ' H' s p m'
      refine ⟨_, hS c _ hx, fun hb a ha => ?_, fun hb => ?_⟩
      · cases k with
        | none => exact P R' ρ' H' (.inr (cV r)) s p m' (cV_rep hr)
        | some d =>
          have hcd : c = d := of_decide_eq_true hb
          dsimp only at P
          rw [if_pos hcd] at P
          exact P R' ρ' H' (.inr (cV r)) s p m' (cV_rep hr)
      · cases k with
        | none => cases hb
        | some d =>
          have hcd : ¬ c = d := of_decide_eq_false hb
          dsimp only at P
          rw [if_neg hcd] at P
          exact P R' ρ' H' s p m'
    · exact P.elim
end
end SWS
end
section
set_option maxRecDepth 100000
set_option maxHeartbeats 4000000
/-! A def picked from a written list, called. -/
namespace SWS
open PySem PySem.Spec PyProof.Rows L2
open SW (PV Val MO Mem Res M Fl Mode FD ofO)
section
variable {X : Cx} {Fn : Type} {T : Fn → FD Fn} {nm : Fn → Str} {EC : Nat → Value} {W : WX} {k : Nat} {pos p sp : Pos} {e : Expr} {es : List Expr} {gs : LF (List Val)} {gi : LF Val}
/-- the names of defs -/
inductive Nms (X : Cx) (nm : Fn → Str) : List Fn → List Expr → Prop
  | nil : Nms X nm [] []
  | cons {f : Fn} {fs : List Fn} {es : List Expr} {p : Pos} : Gl X (nm f) → (nm f == ("__debug__" : Str)) = false → Nms X nm fs es → Nms X nm (f :: fs) (.Name (nm f) p :: es)
/-- where they stand -/
def FnSt (X : Cx) (EC : Nat → Value) (T : Fn → FD Fn) (k : Nat) (f : Fn) (a : Addr) : Prop := ∃ (fd : FuncData) (ps : List Str), PySem.W.keepIn X.K (.ref a) = true ∧ Binds X.K fd ps [] ∧ FnOk X.prog X.w X.K X.mg X.base (CX X.prog X.w) k a fd ps (spF T EC X.K k f)
theorem pa_nms (A : ∀ f, FnAt X.prog X.w X.K X.mg X.base EC T nm k f) : ∀ {fs : List Fn} {xs : List Expr}, Nms X nm fs xs → ∃ as : List Addr, as.length = fs.length ∧ (∀ (i : Nat) (f : Fn), fs[i]? = some f → ∃ a : Addr, as[i]? = some a ∧ FnSt X EC T k f a) ∧ PA X xs (fun σ H Q => Q (as.map V.ref) H) ∧ (starEach xs X.env).any (·.1) = false
  | [], _, .nil => ⟨[], rfl, fun i f h => (nomatch h), pa_nil, rfl⟩
  | f :: fs, _, .cons (es := es) (p := p) h1 h2 h3 => by
    obtain ⟨as, l, q, pa, st⟩ := pa_nms A h3
    obtain ⟨a, fd, ps, m1, m2, m3, m4⟩ := (A f).at_
    refine ⟨a :: as, by simp [l], fun i g hg => ?_, pa_cons (pe_glob h1 m1 (v := .ref a) rfl h2) pa, st⟩
    cases i with
    | zero => cases hg; exact ⟨a, rfl, fd, ps, m2, m3, m4⟩
    | succ i => exact q i g hg
theorem ev_callL (A : ∀ f, FnAt X.prog X.w X.K X.mg X.base EC T nm k f) (hr : Room k X.A) (hW : WOk W) (tk : Takes X W) {fs : List Fn} {xs : List Expr} {ix : Expr} (hn : Nms X nm fs xs) (hl : fs.length ≤ 1000) (hi : PE X ix (liftE X.K EC W gi)) (hpx : PlainIx ix) (m : Mode) (b : Nat) (ha : PA X (e :: es) (liftA X.K EC W gs))
    (he : starEach (e :: es) X.env = (false, eval e X.env) :: starEach es X.env) (hpl : (backTo pos (starEach es X.env)).any (·.1) = false) :
    PE X (.Call (.Subscript (.List xs p) ix sp) (e :: es) [] pos) (liftE X.K EC W fun l => do let x ← gi l; let f ← ofO (SW.atF fs x); let vs ← gs l; SW.callN T k m b f vs) := by
  obtain ⟨as, la, qa, pa, _⟩ := pa_nms A hn
  refine ⟨fun pins s σ H Q I h => ?_⟩
  refine Call_ ?_ (by rfl)
  have hsub : PE X (.Subscript (.List xs p) ix sp) (tOp (rIxL X.K) (tLst fun σ H Q => Q (as.map V.ref) H) (liftE X.K EC W gi)) := pe_ix ix_list (pe_lst pa) hi hpx
  refine thn (hsub.run pins s σ H (fun v H1 => ∃ a f, v = .ref a ∧ FnSt X EC T k f a ∧ liftE X.K EC W (fun l => do let vs ← gs l; SW.callN T k m b f vs) σ H1 Q) I ?_) fun u s1 hh => ?_
  · refine ⟨by rw [List.length_map, la, sizeLine_eq]; omega, fun q hq => ?_⟩
    obtain ⟨F, R, ρ, l, μ, mr, sr, P⟩ := h
    obtain ⟨m2, s2⟩ := mr.frozen (o := .lst (as.map V.ref)) hq
    refine lift_next (Wx := fun _ _ => True) m2 (sr.mono s2 (List.prefix_refl ρ)) (P.mono s2 (List.prefix_refl ρ)) fun R1 ρ1 μ1 H1 v y sub pre m1 s1 r1 P1 => ?_
    obtain ⟨f, ef, P2⟩ := ofO_cases P1
    cases v with
    | o n => cases ef
    | v pv =>
      cases pv with
      | int i =>
        have ef : (if 0 ≤ i then fs[i.toNat]? else none) = some f := ef
        by_cases hi0 : 0 ≤ i
        · rw [if_pos hi0] at ef
          obtain ⟨a, ea, st⟩ := qa _ f ef
          have r1 : y = .int i := r1.int_inv
          have ei : ((i.toNat : Nat) : Int) = i := Int.toNat_of_nonneg hi0
          refine ⟨q, as.map V.ref, i, .ref a, rfl, r1, .inl (.inl (m1.sub _ _ (sub _ _ upd_same))), ?_, a, f, rfl, st, ⟨F, R1, ρ1, l, μ1, m1, s1, P2⟩⟩
          have z := atI_nat (xs := as.map V.ref) (j := i.toNat) (v := V.ref a) (by rw [List.getElem?_map, ea]; rfl)
          rwa [ei] at z
        · rw [if_neg hi0] at ef; cases ef
      | _ => cases ef
  · obtain ⟨v, H1, I1, rv, a, f, rfl, ⟨fd, ps, h2, h3, h4⟩, hq⟩ := hh
    cases rv
    have hq := hq
    refine PySem.W.callWith_K (h₀ := X.base) I1.ok.mod.kin h2 (thn (ha.run pos pins s1 σ H1 (fun vs H2 => spF T EC X.K k f (vs ++ []) H2 Q (fun c d H => W c d [] H)) I1 (lift_bind hq fun F R ρ l μ H1 vs xs mr s r P => call_post hW mr r P)) fun us s2 hh2 => ?_) he hpl
    obtain ⟨vs, H2, I2, r, q⟩ := hh2
    exact ⟨I2.kIn, run_fn h4 hr h3 .nil (passes_call tk fun c d σ H h => hW _ _ _ _ _ h) I2 r q⟩
end
end SWS
end
section
set_option maxRecDepth 100000
/-! The checker: is this text of the model that IR? -/
namespace SWS
open PySem L2
open SW (PV Cn It OF E S Pat FD Mode Bi Me)
structure CC where
  N : List Str
  sc : Scope
  fn : Str → Bool
  tp : Bool
def CC.blk (c : CC) (scope : Scope) : CC := ⟨c.N, L2.relS scope c.sc, fun x => scope.names.lookup x == some .cell, false⟩
/-- names of the table, constants -/
structure SE (Fn : Type) where
  nm : Fn → Str
  cs : Str → Option PV
  /-- the exception classes; does the telling def stand there -/
  xn : List Str := []
  wq : Bool := false
def visB (c : CC) (x : Str) : Bool := (match c.sc.names.lookup x with | some .local => true | some .cell => true | some .free => true | _ => false) && !(x == ("__debug__" : Str)) && !(x == ("__classdict__" : Str))
def glB (c : CC) (x : Str) : Bool := (match c.sc.names.lookup x with | some .globalImplicit => true | _ => false) && !(x == ("__debug__" : Str))
def varB (c : CC) (i : Nat) (x : Str) : Bool := decide (c.N[i]? = some x) && visB c x
def nost : Expr → Bool
  | .Starred _ _ => false
  | _ => true
def nosl : Expr → Bool
  | .Slice _ _ _ _ => false
  | _ => true
def noset : Expr → Bool
  | .Set _ _ _ => false
  | _ => true
/-- its truth is its value's -/
def tvB : Expr → Bool
  | .Name _ _ => true
  | .Call _ _ _ _ => true
  | .Subscript _ _ _ => true
  | .BinOp _ _ _ _ => true
  | _ => false
def baseB : Expr → Bool
  | .Name _ _ => true
  | .Subscript _ _ _ => true
  | .List _ _ => true
  | .Constant _ _ _ => true
  | _ => false
def opB (o : SW.Op2) (p : Operator) : Bool := decide (binAst o = p)
def cmpB (o : SW.CmpO) (p : CmpOp) : Bool := decide (cmpAst o = p)
def constB (p : PV) : Const → Bool
  | .none => match p with | .non => true | _ => false
  | .bool b => match p with | .bl a => a == b | _ => false
  | .int i => match p with | .int j => decide (i = j) | _ => false
  | .str s => match p with | .str t => decide (toS t = s) | _ => false
  | _ => false
mutual
/-- a target -/
def chkP (c : CC) : Pat → Expr → Bool
  | .v i, e => match e with
    | .Name x _ => decide (c.N[i]? = some x) && (match c.sc.names.lookup x with | some .local => true | some .cell => c.fn x | _ => false)
    | _ => false
  | .t ps, e => match e with
    | .Tuple es _ _ => chkPs c ps es
    | _ => false
def chkPs (c : CC) : List Pat → List Expr → Bool
  | [], es => match es with | [] => true | _ => false
  | p :: ps, es => match es with
    | [] => false
    | e :: es => nost e && chkP c p e && chkPs c ps es
end
section
variable {Fn : Type} (s : SE Fn)
def nmsB (c : CC) : List Fn → List Expr → Bool
  | [], es => match es with | [] => true | _ => false
  | f :: fs, es => match es with
    | .Name x _ :: es => decide (x = s.nm f) && glB c x && nmsB c fs es
    | _ => false
mutual
def chkE (c : CC) : E Fn → Expr → Bool
  | .var i, e => match e with | .Name x _ => varB c i x | _ => false
  | .int i, e => match e with | .Constant k _ _ => constB (.int i) k | _ => false
  | .str i, e => match e with | .Constant k _ _ => constB (.str i) k | _ => false
  | .bl i, e => match e with | .Constant k _ _ => constB (.bl i) k | _ => false
  | .non, e => match e with | .Constant k _ _ => constB .non k | _ => false
  | .cst p, e => match e with
    | .Name x _ => glB c x && (match s.cs x with | some q => SW.same p q | none => false)
    | _ => false
  | .bin o a b, e => match e with | .BinOp x op y _ => opB o op && chkE c a x && chkE c b y | _ => false
  | .neg a, e => match e with | .UnaryOp .USub x _ => chkE c a x | _ => false
  | .emp a, e => match e with | .Compare x [.Eq] [.Dict [] [] _] _ => chkE c a x | _ => false
  | .cmp o a b, e => match e with | .Compare x [op] [y] _ => cmpB o op && noset y && chkE c a x && chkE c b y | _ => false
  | .cmp2 o p a b d, e => match e with | .Compare x [op, oq] [y, z] _ => cmpB o op && cmpB p oq && noset z && chkE c a x && chkE c b y && chkE c d z | _ => false
  | .and a b, e => match e with
    | .BoolOp .And (x :: y :: r) pos => chkE c a x && (match r with | [] => chkE c b y | _ => chkE c b (.BoolOp .And (y :: r) pos))
    | _ => false
  | .or a b, e => match e with
    | .BoolOp .Or (x :: y :: r) pos => chkE c a x && (match r with | [] => chkE c b y | _ => chkE c b (.BoolOp .Or (y :: r) pos))
    | _ => false
  | .not a, e => match e with | .UnaryOp .Not x _ => chkE c a x | _ => false
  | .ite t a b, e => match e with | .IfExp z x y _ => chkT c t z && chkE c a x && chkE c b y | _ => false
  | .tup es, e => match e with | .Tuple xs _ _ => Nat.ble es.length 1000 && chkEs c es xs | _ => false
  | .lst es, e => match e with | .List xs _ => Nat.ble es.length 1000 && chkEs c es xs | _ => false
  | .idx a i, e => match e with | .Subscript x y _ => nosl y && chkE c a x && chkE c i y | _ => false
  | .slc a lo hi, e => match e with | .Subscript x (.Slice l h none _) _ => chkE c a x && chkO c lo l && chkO c hi h | _ => false
  | .call m f es, e => match e with | .Call (.Name x _) xs [] _ => decide (x = s.nm f) && glB c x && chkEs c es xs | _ => false
  | .callL m fs i es, e => match e with
    | .Call (.Subscript (.List ns _) y _) (z :: zs) [] _ => Nat.ble fs.length 1000 && nmsB s c fs ns && nosl y && chkE c i y && chkEs c es (z :: zs)
    | _ => false
  | .bad, _ => true
  | .bi b es, e => match b with
    | .isI t => (match e with
      | .Call (.Name x _) [y, .Name z _] [] _ => decide (x = ("isinstance" : Str)) && glB c x && decide (z = tyName t) && glB c z && (match es with | [a] => nost y && chkE c a y | _ => false)
      | _ => false)
    | .sortedSet => (match e with
      | .Call (.Name x _) [.Call (.Name y _) [z] [] _] [] _ => decide (x = ("sorted" : Str)) && glB c x && decide (y = ("set" : Str)) && glB c y && (match es with | [a] => nost z && chkE c a z | _ => false)
      | _ => false)
    | .listRange => (match e with
      | .Call (.Name x _) [.Call (.Name y _) [z] [] _] [] _ => decide (x = ("list" : Str)) && glB c x && decide (y = ("range" : Str)) && glB c y && (match es with | [a] => nost z && chkE c a z | _ => false)
      | _ => false)
    | b => (match e with
      | .Call (.Name x _) (y :: ys) [] _ => biOk b && decide (x = biName b) && glB c x && chkEs c es (y :: ys)
      | _ => false)
  | .me m o es, e => match m with
    | .get1 => (match e with
      | .Call (.Attribute x nm ap) [y] [] cp => decide (nm = ("get" : Str)) && baseB x && decide (ap.endLine = cp.line) && nost y && chkE c o x && (match es with | [a] => chkE c a y | _ => false)
      | _ => false)
    | .get2 => (match e with
      | .Call (.Attribute x nm ap) [y, z] [] cp => decide (nm = ("get" : Str)) && baseB x && decide (ap.endLine = cp.line) && nost y && nost z && chkE c o x && (match es with | [a, b] => chkE c a y && chkE c b z | _ => false)
      | _ => false)
    | .indexT => (match e with
      | .Call (.Attribute (.Name x xp) nm ap) [y] [] cp => decide (nm = ("index" : Str)) && decide (ap.endLine = cp.line) && glB c x && (match o with | .cst (.tup ps) => (match s.cs x with | some q => SW.same (.tup ps) q | none => false) | _ => false) && chkEs c es [y]
      | _ => false)
    | m => (match e with
      | .Call (.Attribute x nm ap) xs [] cp => meOk m && decide (nm = meName m) && baseB x && decide (ap.endLine = cp.line) && Nat.blt xs.length 30 && chkE c o x && chkEs c es xs
      | _ => false)
  | .comp elt p it cs own, e => match e with
    | .ListComp x gs scope _ => (match gs with
      | [⟨tg, iter, ifs, 0⟩] => blkC c.N c.sc scope (own.map fun i => (c.N.getD i "", i)) && noset iter && chkI c it tg iter && chkP (c.blk scope) p tg && (pslots p).all (fun i => own.contains i) && chkC (c.blk scope) cs ifs && chkE (c.blk scope) elt x
      | _ => false)
    | _ => false
  | .lenSet elt p it cs own, e => match e with
    | .Call (.Name y _) [.SetComp x gs scope _] [] _ => (match gs with
      | [⟨tg, iter, ifs, 0⟩] => (decide (y = ("len" : Str)) && glB c y) && (blkC c.N c.sc scope (own.map fun i => (c.N.getD i "", i)) && noset iter && chkI c it tg iter && chkP (c.blk scope) p tg && (pslots p).all (fun i => own.contains i) && chkC (c.blk scope) cs ifs && chkE (c.blk scope) elt x)
      | _ => false)
    | _ => false
  | .own f, e => chkF c f e
  | .compK elt p i cs own, e => match e with
    | .ListComp x gs scope _ => (match gs with
      | [⟨tg, .Name y _, ifs, 0⟩] => blkC c.N c.sc scope (own.map fun i => (c.N.getD i "", i)) && varB c i y && chkP (c.blk scope) p tg && (pslots p).all (fun i => own.contains i) && chkC (c.blk scope) cs ifs && chkE (c.blk scope) elt x
      | _ => false)
    | _ => false
def chkEs (c : CC) : List (E Fn) → List Expr → Bool
  | [], es => match es with | [] => true | _ => false
  | a :: as, es => match es with
    | [] => false
    | e :: es => nost e && chkE c a e && chkEs c as es
def chkO (c : CC) : Option (E Fn) → Option Expr → Bool
  | none, o => match o with | none => true | _ => false
  | some a, o => match o with | some e => chkE c a e | none => false
/-- the tests of a comprehension -/
def chkC (c : CC) : List (Cn Fn) → List Expr → Bool
  | [], es => match es with | [] => true | _ => false
  | t :: ts, es => match ts, es with
    | [], [e] => chkT c t e
    | _, _ => false
def chkT (c : CC) : Cn Fn → Expr → Bool
  | .and a b, e => match e with
    | .BoolOp .And (x :: y :: r) pos => chkT c a x && (match r with | [] => chkT c b y | _ => chkT c b (.BoolOp .And (y :: r) pos))
    | _ => false
  | .or a b, e => match e with
    | .BoolOp .Or (x :: y :: r) pos => chkT c a x && (match r with | [] => chkT c b y | _ => chkT c b (.BoolOp .Or (y :: r) pos))
    | _ => false
  | .not a, e => match e with | .UnaryOp .Not x _ => chkT c a x | _ => false
  | .e a, e => (match e with
    | .Compare _ _ _ _ => (match a with | .cmp _ _ _ => true | .cmp2 _ _ _ _ _ => true | _ => false)
    | e => tvB e) && chkE c a e
/-- a new thing -/
def chkF (c : CC) : OF Fn → Expr → Bool
  | .lst es, e => match e with | .List xs _ => Nat.ble es.length 1000 && chkEs c es xs | _ => false
  | .dk, e => match e with | .Dict [] [] _ => true | _ => false
  | .dt, e => match e with | .Dict [] [] _ => true | _ => false
  | .rep a b, e => match e with | .BinOp x .Mult y _ => chkE c a x && chkE c b y | _ => false
  | .comp elt p it cs own, e => match e with
    | .ListComp x gs scope _ => (match gs with
      | [⟨tg, iter, ifs, 0⟩] => blkC c.N c.sc scope (own.map fun i => (c.N.getD i "", i)) && noset iter && chkI c it tg iter && chkP (c.blk scope) p tg && (pslots p).all (fun i => own.contains i) && chkC (c.blk scope) cs ifs && chkE (c.blk scope) elt x
      | _ => false)
    | _ => false
  | .dcomp kx a p it cs own, e => match e with
    | .DictComp x y gs scope _ => (match gs with
      | [⟨tg, iter, ifs, 0⟩] => blkC c.N c.sc scope (own.map fun i => (c.N.getD i "", i)) && noset iter && chkI c it tg iter && chkP (c.blk scope) p tg && (pslots p).all (fun i => own.contains i) && chkC (c.blk scope) cs ifs && chkE (c.blk scope) kx x && chkE (c.blk scope) a y
      | _ => false)
    | _ => false
  | .dcompK kx a p i cs own, e => match e with
    | .DictComp x y gs scope _ => (match gs with
      | [⟨tg, .Name z _, ifs, 0⟩] => blkC c.N c.sc scope (own.map fun i => (c.N.getD i "", i)) && varB c i z && chkP (c.blk scope) p tg && (pslots p).all (fun i => own.contains i) && chkC (c.blk scope) cs ifs && chkE (c.blk scope) kx x && chkE (c.blk scope) a y
      | _ => false)
    | _ => false
  | .listOf a, e => match e with | .Call (.Name x _) [y] [] _ => decide (x = ("list" : Str)) && glB c x && nost y && chkE c a y | _ => false
  | .dictOf _, _ => false
/-- what a loop goes along -/
def chkI (c : CC) : It Fn → Expr → Expr → Bool
  | .seq a, _, e => chkE c a e
  | .range1 a, _, e => match e with | .Call (.Name x _) [y] [] _ => decide (x = ("range" : Str)) && glB c x && nost y && chkE c a y | _ => false
  | .range2 a b, _, e => match e with | .Call (.Name x _) [y, z] [] _ => decide (x = ("range" : Str)) && glB c x && nost y && nost z && chkE c a y && chkE c b z | _ => false
  | .enum a, tg, e => match tg with
    | .Tuple _ _ _ => (match e with | .Call (.Name x _) [y] [] _ => decide (x = ("enumerate" : Str)) && glB c x && nost y && chkE c a y | _ => false)
    | _ => false
  | .zip a b, tg, e => match tg with
    | .Tuple _ _ _ => (match e with | .Call (.Name x _) [y, z] [] _ => decide (x = ("zip" : Str)) && glB c x && nost y && nost z && chkE c a y && chkE c b z | _ => false)
    | _ => false
end
end
end SWS
end
section
set_option maxRecDepth 100000
/-! What the checker passes, the machine does: expressions. -/
namespace SWS
open PySem PySem.Spec PyProof.Rows L2
open SW (PV Val MO Ky Mem Res M E OF Cn Pat Fl view flat flats ofO bin2 Srcs Keeps Pres Mode FD newO Bi Me S)
structure HX {Fn : Type} (s : SE Fn) (T : Fn → FD Fn) (EC : Nat → Value) (k : Nat) (c : CC) (W : WX) (X : Cx) : Prop where
  N : X.N = c.N
  nd : X.N.Nodup
  sc : X.env.scope = c.sc
  kind : c.sc.kind = .function
  fn : ∀ x, c.fn x = true → X.fn x = true
  calm : X.calm = true
  room : Room k X.A
  bi : ∀ b, biOk b = true → X.mg (biName b) = none
  ty : ∀ t, X.mg (tyName t) = none
  mi : X.mg "isinstance" = none
  mr : X.mg "range" = none
  me : X.mg "enumerate" = none
  mz : X.mg "zip" = none
  ms : X.mg "set" = none
  cs : ∀ x p, s.cs x = some p → ∃ v u, X.mg x = some u ∧ RelV v u ∧ (∀ R, Rep X.K R p v) ∧ TupC X.K p v
  fns : ∀ f, FnAt X.prog X.w X.K X.mg X.base EC T s.nm k f
  tk : Takes X W
  wok : WOk W
  xf : XF X.K X.mg EC s.xn
  wh : s.wq = true → s.xn = xWhich ∧ WhAt X.prog X.w X.K X.mg X.base EC
  tp : c.tp = true → X.stack = X.env :: X.outer ∧ X.env.frame = some X.env.locals
section
variable {Fn : Type} {s : SE Fn} {T : Fn → FD Fn} {EC : Nat → Value} {k : Nat} {c : CC} {W : WX} {X : Cx}
theorem HX.un (h : HX s T EC k c W X) : X.A.units + 100 < cLine := by
  have := h.room.un; omega
theorem HX.blk (h : HX s T EC k c W X) {scope : Scope} (hk : scope.kind = .function) (st : Shared) (H : Hp) (C : Addr) (cl : List (Str × Addr)) (fp : List Addr) : HX s T EC k (c.blk scope) W0 (X.blk st H scope (compEnvC scope cl C X.env) fp) where
  N := h.N
  nd := h.nd
  sc := by
    show relS scope X.env.scope = relS scope c.sc
    rw [h.sc]
  kind := hk
  fn := fun x hx => hx
  calm := h.calm
  room := h.room
  bi := h.bi
  ty := h.ty
  mi := h.mi
  mr := h.mr
  me := h.me
  mz := h.mz
  ms := h.ms
  cs := h.cs
  fns := h.fns
  tk := takes_W0
  wok := wok_W0
  xf := h.xf
  wh := h.wh
  tp := fun z => nomatch z
/-- a try's body -/
theorem HX.tr (h : HX s T EC k c W X) {W' : WX} {pn : List (Addr × Obj)} {xe : Value → Shared → Prop} (tk : Takes (X.tr pn xe) W') (wok : WOk W') : HX s T EC k c W' (X.tr pn xe) where
  N := h.N
  nd := h.nd
  sc := h.sc
  kind := h.kind
  fn := h.fn
  calm := h.calm
  room := h.room
  bi := h.bi
  ty := h.ty
  mi := h.mi
  mr := h.mr
  me := h.me
  mz := h.mz
  ms := h.ms
  cs := h.cs
  fns := h.fns
  tk := tk
  wok := wok
  xf := h.xf
  wh := h.wh
  tp := h.tp
theorem blkC_kind {N : List Str} {sc scope : Scope} {own : List (Str × Nat)} (h : blkC N sc scope own = true) : scope.kind = .function := (blkOk_by h).kind
theorem glB_gl (h : HX s T EC k c W X) {x : Str} (g : glB c x = true) : Gl X x ∧ (x == ("__debug__" : Str)) = false := by
  unfold glB at g
  simp only [Bool.and_eq_true, Bool.not_eq_true'] at g
  refine ⟨?_, g.2⟩
  show X.env.scope.names.lookup x = some .globalImplicit
  rw [h.sc]
  have g1 := g.1
  split at g1
  · assumption
  · cases g1
theorem nms_of {fs : List Fn} (h : HX s T EC k c W X) : ∀ {xs : List Expr}, nmsB s c fs xs = true → Nms X s.nm fs xs := by
  induction fs with
  | nil => intro xs g; cases xs <;> simp [nmsB] at g; exact .nil
  | cons f fs ih =>
    intro xs g
    unfold nmsB at g
    split at g
    · simp only [Bool.and_eq_true, decide_eq_true_eq] at g
      obtain ⟨⟨rfl, g2⟩, g3⟩ := g
      obtain ⟨a1, a2⟩ := glB_gl h g2
      exact .cons a1 a2 (ih g3)
    · cases g
theorem nost_one {e : Expr} (h : nost e = true) (es : List Expr) (env : Env) : starEach (e :: es) env = (false, eval e env) :: starEach es env := by
  cases e <;> first | rfl | cases h
theorem any_back {es : List Expr} {env : Env} {pos : Pos} (h : (starEach es env).any (·.1) = false) : (backTo pos (starEach es env)).any (·.1) = false := by
  unfold backTo
  rw [List.any_map]
  exact h
theorem chkEs_nost {as : List (E Fn)} : ∀ {es : List Expr}, chkEs s c as es = true → ∀ env, (starEach es env).any (·.1) = false := by
  induction as with
  | nil => intro es h env; cases es <;> simp [chkEs] at h; rfl
  | cons a as ih =>
    intro es h env
    cases es with
    | nil => simp [chkEs] at h
    | cons e es =>
      simp only [chkEs, Bool.and_eq_true] at h
      rw [nost_one h.1.1]
      simp [ih h.2 env]
theorem chkEs_len {as : List (E Fn)} : ∀ {es : List Expr}, chkEs s c as es = true → es.length = as.length := by
  induction as with
  | nil => intro es h; cases es <;> simp [chkEs] at h; rfl
  | cons a as ih =>
    intro es h
    cases es with
    | nil => simp [chkEs] at h
    | cons e es =>
      simp only [chkEs, Bool.and_eq_true] at h
      simp [ih h.2]
theorem starEach_len {Fn : Type} {s : SE Fn} {c : CC} : ∀ {as : List (E Fn)} {es : List Expr} (env : Env), chkEs s c as es = true → (starEach es env).all (fun x => !x.1) = true
  | as, [], env, _ => rfl
  | [], e :: es, env, h => by simp [chkEs] at h
  | a :: as, e :: es, env, h => by
    simp only [chkEs, Bool.and_eq_true] at h
    rw [nost_one h.1.1]
    simp only [List.all_cons, Bool.not_false, Bool.true_and]
    exact starEach_len env h.2
theorem all_back {es : List Expr} {env : Env} {pos : Pos} (h : (starEach es env).all (fun x => !x.1) = true) : (backTo pos (starEach es env)).all (fun x => !x.1) = true := by
  unfold backTo
  rw [List.all_map]
  exact h
theorem base_eq {o : Expr} (h : baseB o = true) (nm : Str) (env : Env) (w : Sem Value) : attributeBase o nm env w = w := by
  cases o <;> first | rfl | cases h
theorem tv_eq {e : Expr} (h : tvB e = true) (env : Env) (w : Sem Value) : isTrue e env w = (do let v ← w; standAt e.pos; holding [v] (truthy v)) := by
  cases e <;> first | rfl | cases h
theorem noset_fold {e : Expr} (h : noset e = true) (env : Env) (x : Value) : foldedSetIterable e env x = pure x := by
  cases e <;> first | rfl | cases h
theorem noset_marks {e : Expr} (h : noset e = true) (o : CmpOp) : behindInMarks o e = false := by
  cases e <;> first | rfl | cases h
theorem nosl_plain {e : Expr} (h : nosl e = true) : PlainIx e := by
  intro o i
  cases e <;> first | rfl | cases h
theorem evEs_len {C : Mode → Nat → Fn → List Val → M Val} {b : Nat} : ∀ (es : List (E Fn)) (l : SW.Loc) (μ : Mem) (vs : List Val) (ν : Mem), SW.evEs C b es l μ = .ok vs ν → vs.length = es.length
  | [], l, μ, vs, ν, h => by cases h; rfl
  | e :: es, l, μ, vs, ν, h => by
    rw [SW.evEs] at h
    obtain ⟨a, τ, h1, h2⟩ := SW.rbind_inv h
    obtain ⟨as, κ, h3, h4⟩ := SW.rbind_inv h2
    cases h4
    exact congrArg (· + 1) (evEs_len es l τ as _ h3)
theorem there_seqS {v : Val} {μ μ' : Mem} {r : List PV × Srcs} (h : SW.seqS v μ = .ok r μ') : There r.2 μ' ∧ μ' = μ := by
  refine ⟨?_, SW.still_seqS v μ r μ' h⟩
  have hm := SW.still_seqS v μ r μ' h
  subst hm
  cases v with
  | v p => cases p <;> cases h <;> (intro p hp; simp at hp)
  | o n =>
    unfold SW.seqS at h
    dsimp only at h
    cases h1 : μ'[n]? with
    | none => rw [h1] at h; cases h
    | some o =>
      rw [h1] at h
      dsimp only at h
      cases h2 : SW.seqOf o with
      | none => rw [h2] at h; cases h
      | some xs =>
        rw [h2] at h
        cases h
        intro p hp
        simp at hp
        subst hp
        exact ⟨o, h1, h2⟩
theorem there_seqT {v : Val} {μ μ' : Mem} {r : List PV × Srcs} (h : SW.seqT v μ = .ok r μ') : There r.2 μ' ∧ μ' = μ := by
  cases v with
  | o n => exact there_seqS (v := .o n) h
  | v p =>
    cases p with
    | str t => cases h; exact ⟨by intro p hp; simp at hp, rfl⟩
    | non => exact there_seqS (v := .v .non) h
    | bl b => exact there_seqS (v := .v (.bl b)) h
    | int b => exact there_seqS (v := .v (.int b)) h
    | tup b => exact there_seqS (v := .v (.tup b)) h
    | lst b => exact there_seqS (v := .v (.lst b)) h
theorem there_evI {C : Mode → Nat → Fn → List Val → M Val} {b : Nat} : ∀ (it : SW.It Fn) (l : SW.Loc) (μ : Mem) (r : List PV × Srcs) (μ' : Mem), SW.evI C b it l μ = .ok r μ' → There r.2 μ'
  | .seq e, l, μ, r, μ', h => by
    rw [SW.evI] at h
    obtain ⟨v, ν, h1, h2⟩ := SW.rbind_inv h
    exact (there_seqT h2).1
  | .range1 e, l, μ, r, μ', h => by
    rw [SW.evI] at h
    obtain ⟨v, ν, h1, h2⟩ := SW.rbind_inv h
    dsimp only at h2
    split at h2
    · split at h2
      · cases h2; intro p hp; simp at hp
      · cases h2
    · cases h2
  | .range2 e f, l, μ, r, μ', h => by
    rw [SW.evI] at h
    obtain ⟨v, ν, h1, h2⟩ := SW.rbind_inv h
    obtain ⟨w, τ, h3, h4⟩ := SW.rbind_inv h2
    dsimp only at h4
    split at h4
    · split at h4
      · cases h4; intro p hp; simp at hp
      · cases h4
    · cases h4
  | .enum e, l, μ, r, μ', h => by
    rw [SW.evI] at h
    obtain ⟨v, ν, h1, h2⟩ := SW.rbind_inv h
    obtain ⟨w, τ, h3, h4⟩ := SW.rbind_inv h2
    cases h4
    exact (there_seqT h3).1
  | .zip e f, l, μ, r, μ', h => by
    rw [SW.evI] at h
    obtain ⟨v, ν, h1, h2⟩ := SW.rbind_inv h
    obtain ⟨w, τ, h3, h4⟩ := SW.rbind_inv h2
    obtain ⟨a, κ, h5, h6⟩ := SW.rbind_inv h4
    obtain ⟨d, κ2, h7, h8⟩ := SW.rbind_inv h6
    cases h8
    obtain ⟨t1, e1⟩ := there_seqS h5
    obtain ⟨t2, e2⟩ := there_seqS h7
    subst e1 e2
    intro p hp
    rcases List.mem_append.mp hp with hp | hp
    · exact t1 p hp
    · exact t2 p hp
/-! ### targets -/
mutual
theorem sP (h : HX s T EC k c W X) : ∀ (p : Pat) (e : Expr), chkP c p e = true → PG X e (gPat X.K p)
  | .v i, e, g => by
    unfold chkP at g
    split at g
    · rename_i x pos
      simp only [Bool.and_eq_true, decide_eq_true_eq] at g
      obtain ⟨g1, g2⟩ := g
      have hl : (X.env.scope.names.lookup x = some .local) ∨ (X.env.scope.names.lookup x = some .cell ∧ c.fn x = true) := by
        rw [h.sc]
        split at g2
        · left; assumption
        · right; exact ⟨by assumption, g2⟩
        · cases g2
      refine pg_name h.nd (by rw [h.N]; exact g1) (hl.elim .inl fun z => .inr z.1) (hl.elim .inr fun z => .inl (h.fn x z.2))
    · cases g
  | .t ps, e, g => by
    unfold chkP at g
    split at g
    · rename_i es kk pos
      refine pg_t h.calm (sPs h ps es g) (sPs_len ps es g X.env).1 (sPs_len ps es g X.env).2
    · cases g
theorem sPs_len : ∀ (ps : List Pat) (es : List Expr), chkPs c ps es = true → ∀ env, (assignEach es env).length = ps.length ∧ (assignEach es env).findIdx? (·.1) = none
  | [], es, g, env => by cases es <;> simp [chkPs] at g; exact ⟨rfl, rfl⟩
  | p :: ps, [], g, env => by simp [chkPs] at g
  | p :: ps, e :: es, g, env => by
    simp only [chkPs, Bool.and_eq_true] at g
    obtain ⟨h1, h2⟩ := sPs_len ps es g.2 env
    have e1 : assignEach (e :: es) env = (false, assign e env) :: assignEach es env := by
      have := g.1.1
      cases e <;> first | rfl | cases this
    rw [e1]
    refine ⟨by simp [h1], ?_⟩
    rw [List.findIdx?_cons, h2]; rfl
theorem sPs (h : HX s T EC k c W X) : ∀ (ps : List Pat) (es : List Expr), chkPs c ps es = true → PGs X es (gPats X.K ps)
  | [], es, g => by cases es <;> simp [chkPs] at g; exact pgs_nil
  | p :: ps, [], g => by simp [chkPs] at g
  | p :: ps, e :: es, g => by
    simp only [chkPs, Bool.and_eq_true] at g
    refine pgs_cons (sP h p e g.1.2) (sPs h ps es g.2) ?_
    have := g.1.1
    cases e <;> first | rfl | cases this
end
end
end SWS
end
section
set_option maxRecDepth 100000
set_option maxHeartbeats 4000000
/-! What the checker passes, the machine does: expressions, all of them. -/
namespace SWS
open PySem PySem.Spec PyProof.Rows L2
open SW (PV Val MO Ky Mem Res M E OF Cn Pat Fl view flat flats ofO bin2 Srcs Keeps Pres Mode FD newO Bi Me S)
section
variable {Fn : Type} {s : SE Fn} {T : Fn → FD Fn} {EC : Nat → Value} {k : Nat}
theorem const_pe {X : Cx} {W : WX} {p : PV} {q : Const} {j : Nat} {pos : Pos} (h : constB p q = true) : PE X (.Constant q j pos) (liftE X.K EC W fun _ => pure (Val.v p)) := by
  cases q with
  | none => cases p <;> simp [constB] at h; exact ev_const pe_non fun R => .non
  | bool b => cases p <;> simp [constB] at h; subst h; exact ev_const pe_bl fun R => .bl _
  | int i => cases p <;> simp [constB] at h; subst h; exact ev_const pe_int fun R => .int _
  | str x => cases p <;> simp [constB] at h; subst h; exact ev_const pe_str fun R => .str _
  | _ => simp [constB] at h
theorem own_map {N : List Str} (own : List Nat) : (own.map fun i => (N.getD i "", i)).map (·.2) = own := by
  induction own with
  | nil => rfl
  | cons a r ih => exact congrArg (a :: ·) ih
theorem pslots_own {N : List Str} {p : Pat} {own : List Nat} (h : (pslots p).all (fun i => own.contains i) = true) : ∀ i ∈ pslots p, i ∈ (own.map fun i => (N.getD i "", i)).map (·.2) := by
  intro i hi
  rw [own_map]
  have := List.all_eq_true.mp h i hi
  simpa using this
/-- a step of a comprehension, as the evaluator has it -/
theorem step_eq {C : Mode → Nat → Fn → List Val → M Val} {b : Nat} (p : Pat) (own : List Nat) (cs : List (Cn Fn)) (elt : E Fn) (l : SW.Loc) : stepC p own (SW.evC C b cs) (SW.evE C b elt) l = fun x => SW.noX (match SW.asgP p x (SW.wipeL l own) with
      | some l' => do
        let ok ← SW.evC C b cs l'
        if ok then (do
          let v ← SW.evE C b elt l'
          let y ← flat v
          pure (some y))
        else pure none
      | none => SW.no) := rfl
theorem var_pe {c : CC} {W : WX} {X : Cx} (h : HX s T EC k c W X) {i : Nat} {x : Str} {pos : Pos} (g : varB c i x = true) : PE X (.Name x pos) (liftE X.K EC W (gVar i)) := by
  unfold varB visB at g
  simp only [Bool.and_eq_true, decide_eq_true_eq, Bool.not_eq_true'] at g
  obtain ⟨g1, ⟨g2, g3⟩, g4⟩ := g
  refine ev_var (by rw [h.N]; exact g1) ?_ g3 g4
  unfold Vis
  rw [h.sc]
  split at g2
  · left; assumption
  · right; left; assumption
  · right; right; assumption
  · cases g2
theorem stepD_eq {C : Mode → Nat → Fn → List Val → M Val} {b : Nat} (p : Pat) (own : List Nat) (cs : List (Cn Fn)) (kx elt : E Fn) (l : SW.Loc) : stepD p own (SW.evC C b cs) (SW.evE C b kx) (SW.evE C b elt) l = fun x => SW.noX (match SW.asgP p x (SW.wipeL l own) with
      | some l' => do
        let ok ← SW.evC C b cs l'
        if ok then (do
          let kv ← SW.evE C b kx l'
          let kp ← flat kv
          let v ← SW.evE C b elt l'
          let y ← flat v
          pure (some (kp, y)))
        else pure none
      | none => SW.no) := rfl
/-- onKeys, then what is made of it -/
theorem onKeys_new {i : Nat} {l : SW.Loc} {g : List PV → M MO} (h : ∀ xs, Pres (g xs)) (μ : Mem) : (SW.onKeys i l g >>= fun o => newO o) μ = SW.onKeys i l (fun xs => g xs >>= fun o => newO o) μ := by
  show (SW.onKeys i l g μ).bind (fun o ν => newO o ν) = _
  cases h1 : l[i]? with
  | none => unfold SW.onKeys; rw [h1]; rfl
  | some o =>
    cases o with
    | none => unfold SW.onKeys; rw [h1]; rfl
    | some v =>
      cases v with
      | v p => unfold SW.onKeys; rw [h1]; rfl
      | o n =>
        cases h2 : μ[n]? with
        | none => unfold SW.onKeys; rw [h1]; dsimp only; rw [h2]; rfl
        | some o =>
          cases o with
          | dk kvs =>
            rw [onKeys_at h1 h2, onKeys_at h1 h2]
            have hn : n < μ.length := (List.getElem?_eq_some_iff.mp h2).1
            show _ = okX ((g (kvs.map fun kv => SW.ofKey kv.1) (μ.set n (.lk (.dk kvs)))).bind fun o ν => newO o ν) (reopen n)
            rw [okX_bind]
            cases e2 : g (kvs.map fun kv => SW.ofKey kv.1) (μ.set n (.lk (.dk kvs))) with
            | no => rfl
            | exn c ν => rfl
            | ok a ν =>
              have lock : ν[n]? = some (.lk (.dk kvs)) := h _ _ _ _ e2 n _ (List.getElem?_set_self hn)
              have hn' : n < ν.length := (List.getElem?_eq_some_iff.mp lock).1
              have r1 : reopen n a ν = .ok a (ν.set n (.dk kvs)) := by unfold reopen; rw [lock]
              have r2 : reopen n (Val.o ν.length) (ν ++ [a]) = .ok (Val.o ν.length) (ν.set n (.dk kvs) ++ [a]) := by
                unfold reopen; rw [List.getElem?_append_left hn', lock]; dsimp only; rw [List.set_append_left _ _ hn']
              show (reopen n a ν).bind (fun o ν => newO o ν) = reopen n (Val.o ν.length) (ν ++ [a])
              rw [r1, r2]
              show Res.ok (Val.o (ν.set n (.dk kvs)).length) (ν.set n (.dk kvs) ++ [a]) = _
              rw [List.length_set]
          | _ => unfold SW.onKeys; rw [h1]; dsimp only; rw [h2]; rfl
mutual
theorem sE (b : Nat) : ∀ (a : E Fn) (c : CC) (W : WX) (X : Cx) (e : Expr), HX s T EC k c W X → chkE s c a e = true → PE X e (liftE X.K EC W (SW.evE (SW.callN T k) b a))
  | .var i, c, W, X, e, h, g => by
    unfold chkE at g
    split at g
    · rename_i x pos
      unfold varB visB at g
      simp only [Bool.and_eq_true, decide_eq_true_eq, Bool.not_eq_true'] at g
      obtain ⟨g1, ⟨g2, g3⟩, g4⟩ := g
      refine PE.g (ev_var (i := i) (by rw [h.N]; exact g1) ?_ g3 g4) fun l => by rw [SW.evE] <;> rfl
      unfold Vis
      rw [h.sc]
      split at g2
      · left; assumption
      · right; left; assumption
      · right; right; assumption
      · cases g2
    · cases g
  | .int i, c, W, X, e, h, g => by
    unfold chkE at g
    split at g
    · exact PE.g (const_pe g) fun l => by rw [SW.evE]
    · cases g
  | .str i, c, W, X, e, h, g => by
    unfold chkE at g
    split at g
    · exact PE.g (const_pe g) fun l => by rw [SW.evE]
    · cases g
  | .bl i, c, W, X, e, h, g => by
    unfold chkE at g
    split at g
    · exact PE.g (const_pe g) fun l => by rw [SW.evE]
    · cases g
  | .non, c, W, X, e, h, g => by
    unfold chkE at g
    split at g
    · exact PE.g (const_pe g) fun l => by rw [SW.evE]
    · cases g
  | .cst p, c, W, X, e, h, g => by
    unfold chkE at g
    split at g
    · rename_i x pos
      simp only [Bool.and_eq_true] at g
      obtain ⟨g1, g2⟩ := g
      obtain ⟨hg, hd⟩ := glB_gl h g1
      split at g2
      · rename_i q hq
        obtain ⟨v, u, h1, h2, h3, _⟩ := h.cs x q hq
        have := SW.same_eq p q g2
        subst this
        exact PE.g (ev_const (pe_glob hg h1 h2 hd) h3) fun l => by rw [SW.evE]
      · cases g2
    · cases g
  | .bin o a d, c, W, X, e, h, g => by
    unfold chkE at g
    split at g
    · rename_i x op y pos
      unfold opB at g
      simp only [Bool.and_eq_true, decide_eq_true_eq] at g
      obtain ⟨⟨rfl, g2⟩, g3⟩ := g
      exact PE.g (ev_bin2 (sE b a c W X x h g2) (sE b d c W X y h g3)) fun l => by rw [SW.evE] <;> rfl
    · cases g
  | .neg a, c, W, X, e, h, g => by
    unfold chkE at g
    split at g
    · exact PE.g (ev_neg (sE b a c W X _ h g)) fun l => by rw [SW.evE] <;> rfl
    · cases g
  | .emp a, c, W, X, e, h, g => by
    unfold chkE at g
    split at g
    · exact PE.g (ev_emp h.un (sE b a c W X _ h g)) fun l => by rw [SW.evE] <;> rfl
    · cases g
  | .cmp o a d, c, W, X, e, h, g => by
    unfold chkE at g
    split at g
    · unfold cmpB at g
      simp only [Bool.and_eq_true, decide_eq_true_eq] at g
      obtain ⟨⟨⟨rfl, g0⟩, g2⟩, g3⟩ := g
      exact PE.g (ev_cmp1 h.un (sE b a c W X _ h g2) (sE b d c W X _ h g3) (noset_marks g0 _)) fun l => by rw [SW.evE]
    · cases g
  | .cmp2 o p a d f, c, W, X, e, h, g => by
    unfold chkE at g
    split at g
    · unfold cmpB at g
      simp only [Bool.and_eq_true, decide_eq_true_eq] at g
      obtain ⟨⟨⟨⟨⟨rfl, rfl⟩, g0⟩, g2⟩, g3⟩, g4⟩ := g
      exact PE.g (ev_cmp2 h.un (sE b a c W X _ h g2) (sE b d c W X _ h g3) (sE b f c W X _ h g4) (noset_marks g0 _)) fun l => by rw [SW.evE] <;> rfl
    · cases g
  | .and a d, c, W, X, e, h, g => by
    unfold chkE at g
    split at g
    · rename_i x y r pos
      simp only [Bool.and_eq_true] at g
      obtain ⟨g1, g2⟩ := g
      refine PE.g (ev_and (sE b a c W X x h g1) ?_) fun l => by rw [SW.evE] <;> rfl
      cases r with
      | nil => exact ev_and1 (sE b d c W X y h g2)
      | cons z r => exact sE b d c W X _ h g2
    · cases g
  | .or a d, c, W, X, e, h, g => by
    unfold chkE at g
    split at g
    · rename_i x y r pos
      simp only [Bool.and_eq_true] at g
      obtain ⟨g1, g2⟩ := g
      refine PE.g (ev_or (sE b a c W X x h g1) ?_) fun l => by rw [SW.evE] <;> rfl
      cases r with
      | nil => exact ev_or1 (sE b d c W X y h g2)
      | cons z r => exact sE b d c W X _ h g2
    · cases g
  | .not a, c, W, X, e, h, g => by
    unfold chkE at g
    split at g
    · exact PE.g (ev_not (sE b a c W X _ h g)) fun l => by rw [SW.evE] <;> rfl
    · cases g
  | .ite t a d, c, W, X, e, h, g => by
    unfold chkE at g
    split at g
    · simp only [Bool.and_eq_true] at g
      obtain ⟨⟨g1, g2⟩, g3⟩ := g
      exact PE.g (ev_ite (sT b t c W X _ h g1).1 (sE b a c W X _ h g2) (sE b d c W X _ h g3)) fun l => by rw [SW.evE]
    · cases g
  | .tup es, c, W, X, e, h, g => by
    unfold chkE at g
    split at g
    · simp only [Bool.and_eq_true] at g
      have hl := Nat.le_of_ble_eq_true g.1
      exact PE.g (ev_tup (sEs b es c W X _ h g.2) (fun l μ vs ν e => by rw [evEs_len es l μ vs ν e]; omega)) fun l => by rw [SW.evE]
    · cases g
  | .lst es, c, W, X, e, h, g => by
    unfold chkE at g
    split at g
    · simp only [Bool.and_eq_true] at g
      have hl := Nat.le_of_ble_eq_true g.1
      exact PE.g (ev_lst (sEs b es c W X _ h g.2) (fun l μ vs ν e => by rw [evEs_len es l μ vs ν e]; omega)) fun l => by rw [SW.evE]
    · cases g
  | .idx a i, c, W, X, e, h, g => by
    unfold chkE at g
    split at g
    · simp only [Bool.and_eq_true] at g
      obtain ⟨⟨g1, g2⟩, g3⟩ := g
      have hu := h.un
      exact PE.g (ev_idx (by omega) (nosl_plain g1) (sE b a c W X _ h g2) (sE b i c W X _ h g3)) fun l => by rw [SW.evE] <;> rfl
    · cases g
  | .slc a lo hi, c, W, X, e, h, g => by
    unfold chkE at g
    split at g
    · simp only [Bool.and_eq_true] at g
      obtain ⟨⟨g1, g2⟩, g3⟩ := g
      exact PE.g (ev_slc (sE b a c W X _ h g1) (sO b lo c W X _ h g2) (sO b hi c W X _ h g3)) fun l => by rw [SW.evE] <;> rfl
    · cases g
  | .callL m fs i es, c, W, X, e, h, g => by
    unfold chkE at g
    split at g
    · rename_i ns p y sp z zs pos
      simp only [Bool.and_eq_true] at g
      obtain ⟨⟨⟨⟨g1, g2⟩, g3⟩, g4⟩, g5⟩ := g
      have hl := Nat.le_of_ble_eq_true g1
      cases es with
      | nil => simp [chkEs] at g5
      | cons a as =>
        have g5' := g5
        simp only [chkEs, Bool.and_eq_true] at g5'
        exact PE.g (ev_callL h.fns h.room h.wok h.tk (nms_of h g2) hl (sE b i c W X _ h g4) (nosl_plain g3) m b (sEs b (a :: as) c W X _ h g5) (nost_one g5'.1.1 _ _) (any_back (chkEs_nost (s := s) (c := c) g5'.2 _))) fun l => by rw [SW.evE]
    · cases g
  | .bad, c, W, X, e, h, g => PE.g (ee_never (te := fun _ _ _ => False)) fun l => by rw [SW.evE]
  | .call m f es, c, W, X, e, h, g => by
    unfold chkE at g
    split at g
    · rename_i x p xs pos
      simp only [Bool.and_eq_true, decide_eq_true_eq] at g
      obtain ⟨⟨rfl, g2⟩, g3⟩ := g
      obtain ⟨hg, hd⟩ := glB_gl h g2
      cases es with
      | nil =>
        cases xs with
        | nil => exact PE.g (ev_call0 (h.fns f) h.room hg h.wok h.tk hd m b) fun l => by rw [SW.evE, SW.evEs]
        | cons y ys => simp [chkEs] at g3
      | cons a as =>
        cases xs with
        | nil => simp [chkEs] at g3
        | cons y ys =>
          have g4 := g3
          simp only [chkEs, Bool.and_eq_true] at g4
          exact PE.g (ev_call (h.fns f) h.room hg h.wok h.tk hd m b (sEs b (a :: as) c W X _ h g3) (nost_one g4.1.1 _ _) (any_back (chkEs_nost g4.2 _))) fun l => by rw [SW.evE]
    · cases g
  | .bi o es, c, W, X, e, h, g => by
    have gen : (match (generalizing := false) e with
      | .Call (.Name x _) (y :: ys) [] _ => biOk o && decide (x = biName o) && glB c x && chkEs s c es (y :: ys)
      | _ => false) = true → PE X e (liftE X.K EC W (SW.evE (SW.callN T k) b (.bi o es))) := by
      intro g
      split at g
      · simp only [Bool.and_eq_true, decide_eq_true_eq] at g
        obtain ⟨⟨⟨g1, rfl⟩, g2⟩, g3⟩ := g
        obtain ⟨hg, hd⟩ := glB_gl h g2
        cases es with
        | nil => simp [chkEs] at g3
        | cons a as =>
          have g4 := g3
          simp only [chkEs, Bool.and_eq_true] at g4
          exact PE.g (ev_bi g1 h.calm h.un hg (h.bi o g1) (sEs b (a :: as) c W X _ h g3) (nost_one g4.1.1 _ _) (any_back (chkEs_nost g4.2 _))) fun l => by rw [SW.evE]
      · cases g
    cases o with
    | isI t =>
      unfold chkE at g
      dsimp only at g
      split at g
      · rename_i x p1 y z p2 p3
        simp only [Bool.and_eq_true, decide_eq_true_eq] at g
        obtain ⟨⟨⟨⟨rfl, g2⟩, rfl⟩, g3⟩, g4⟩ := g
        obtain ⟨hg, hd⟩ := glB_gl h g2
        obtain ⟨hg', hd'⟩ := glB_gl h g3
        split at g4
        · rename_i a
          simp only [Bool.and_eq_true] at g4
          refine PE.g (ev_isI hg h.mi hg' (h.ty t) (sE b a c W X y h g4.2) (nost_one g4.1 _ _)) fun l => ?_
          rw [SW.evE, SW.evEs, SW.evEs, m_assoc]
          rfl
        · cases g4
      · cases g
    | sortedSet =>
      unfold chkE at g
      dsimp only at g
      split at g
      · rename_i x p1 y p2 z q p3
        simp only [Bool.and_eq_true, decide_eq_true_eq] at g
        obtain ⟨⟨⟨⟨rfl, g2⟩, rfl⟩, g3⟩, g4⟩ := g
        obtain ⟨hg, hd⟩ := glB_gl h g2
        obtain ⟨hg', hd'⟩ := glB_gl h g3
        split at g4
        · rename_i a
          simp only [Bool.and_eq_true] at g4
          refine PE.g (ev_sortedSet h.calm h.un hg (h.bi .sorted rfl) hg' h.ms (sE b a c W X z h g4.2) (nost_one g4.1 _ _)) fun l => ?_
          rw [SW.evE, SW.evEs, SW.evEs, m_assoc]
          congr 1; funext v
          show SW.biV .sortedSet [v] = _
          funext μ
          show (view v μ).bind (fun p ν => (ofO (SW.bi1 .sortedSet p) ν).bind fun r ξ => Res.ok (Val.v r) ξ) = (view v μ).bind _
          congr 1; funext pv ν
          cases pv with
          | lst xs =>
            show (ofO (if (SW.allStr xs && Nat.ble xs.length 3000) = true then some (PV.lst (SW.isort (SW.once xs))) else none) ν).bind _ = (if (SW.allStr xs && Nat.ble xs.length 3000) = true then pure (Val.v (.lst (SW.isort (SW.once xs)))) else SW.no : M Val) ν
            split <;> rfl
          | _ => rfl
        · cases g4
      · cases g
    | listRange =>
      unfold chkE at g
      dsimp only at g
      split at g
      · rename_i x p1 y p2 z q p3
        simp only [Bool.and_eq_true, decide_eq_true_eq] at g
        obtain ⟨⟨⟨⟨rfl, g2⟩, rfl⟩, g3⟩, g4⟩ := g
        obtain ⟨hg, hd⟩ := glB_gl h g2
        obtain ⟨hg', hd'⟩ := glB_gl h g3
        split at g4
        · rename_i a
          simp only [Bool.and_eq_true] at g4
          refine PE.g (ev_listRange h.calm hg (h.bi .listOf rfl) hg' h.mr (sE b a c W X z h g4.2) (nost_one g4.1 _ _)) fun l => ?_
          rw [SW.evE, SW.evEs, SW.evEs, m_assoc]
          congr 1; funext v
          show SW.biV .listRange [v] = _
          funext μ
          show (view v μ).bind (fun p ν => (ofO (SW.bi1 .listRange p) ν).bind fun r ξ => Res.ok (Val.v r) ξ) = (view v μ).bind _
          congr 1; funext pv ν
          cases pv with
          | int n =>
            show (ofO (if (decide (n ≤ 16777216) && decide (-16777216 ≤ n)) = true then some (PV.lst (SW.rangeL 0 n.toNat)) else none) ν).bind _ = (if (decide (n ≤ 16777216) && decide (-16777216 ≤ n)) = true then pure (Val.v (.lst (SW.rangeL 0 n.toNat))) else SW.no : M Val) ν
            split <;> rfl
          | _ => rfl
        · cases g4
      · cases g
    | _ => exact gen (by unfold chkE at g; exact g)
  | .me m o es, c, W, X, e, h, g => by
    have gen : meOk m = true → (match (generalizing := false) e with
      | .Call (.Attribute x nm ap) xs [] cp => meOk m && decide (nm = meName m) && baseB x && decide (ap.endLine = cp.line) && Nat.blt xs.length 30 && chkE s c o x && chkEs s c es xs
      | _ => false) = true → PE X e (liftE X.K EC W (SW.evE (SW.callN T k) b (.me m o es))) := by
      intro hm g
      split at g
      · rename_i x nm ap xs cp _
        simp only [Bool.and_eq_true, decide_eq_true_eq] at g
        obtain ⟨⟨⟨⟨⟨⟨_, rfl⟩, g3⟩, g4⟩, g5⟩, g6⟩, g7⟩ := g
        have hl : xs.length < 30 := Nat.le_of_ble_eq_true g5
        cases es with
        | nil =>
          cases xs with
          | nil => exact PE.g (ev_me0 hm h.un (sE b o c W X _ h g6) (base_eq g3 _ _ _) (by simpa using g4)) fun l => by rw [SW.evE, SW.evEs]
          | cons y ys => simp [chkEs] at g7
        | cons a as =>
          cases xs with
          | nil => simp [chkEs] at g7
          | cons y ys =>
            have g8 := g7
            simp only [chkEs, Bool.and_eq_true] at g8
            refine PE.g (ev_me hm h.un (sE b o c W X _ h g6) (sEs b (a :: as) c W X _ h g7) (base_eq g3 _ _ _) ?_ (by simpa using g4) (nost_one g8.1.1 _ _) (any_back (chkEs_nost g8.2 _))) fun l => by rw [SW.evE]
            rw [all_back (starEach_len _ g7)]
            simp only [Bool.true_and, Bool.and_eq_true, decide_eq_true_eq]
            exact ⟨rfl, by simpa using hl⟩
      · cases g
    cases m with
    | get1 =>
      unfold chkE at g
      dsimp only at g
      split at g
      · rename_i x nm ap y cp
        simp only [Bool.and_eq_true, decide_eq_true_eq] at g
        obtain ⟨⟨⟨⟨⟨rfl, g2⟩, g3⟩, g4⟩, g5⟩, g6⟩ := g
        split at g6
        · rename_i a
          refine PE.g (ev_get1 h.un (sE b o c W X x h g5) (sE b a c W X y h g6) ⟨base_eq g2 _ _ _, ?_, by simpa using g3, ?_⟩) fun l => by rw [SW.evE, SW.evEs, SW.evEs]
          · rw [nost_one g4]; rfl
          · rw [nost_one g4]; rfl
        · cases g6
      · cases g
    | get2 =>
      unfold chkE at g
      dsimp only at g
      split at g
      · rename_i x nm ap y z cp
        simp only [Bool.and_eq_true, decide_eq_true_eq] at g
        obtain ⟨⟨⟨⟨⟨⟨rfl, g2⟩, g3⟩, g4⟩, g4'⟩, g5⟩, g6⟩ := g
        split at g6
        · rename_i a d
          simp only [Bool.and_eq_true] at g6
          refine PE.g (ev_get2 h.un (sE b o c W X x h g5) (sE b a c W X y h g6.1) (sE b d c W X z h g6.2) ⟨base_eq g2 _ _ _, ?_, by simpa using g3, ?_⟩) fun l => by rw [SW.evE, SW.evEs, SW.evEs, SW.evEs]
          · rw [nost_one g4, nost_one g4']; rfl
          · rw [nost_one g4, nost_one g4']; rfl
        · cases g6
      · cases g
    | indexT =>
      unfold chkE at g
      dsimp only at g
      split at g
      · rename_i x xp nm ap y cp
        simp only [Bool.and_eq_true, decide_eq_true_eq] at g
        obtain ⟨⟨⟨⟨rfl, g2⟩, g3⟩, g4⟩, g5⟩ := g
        obtain ⟨hg, hd⟩ := glB_gl h g3
        split at g4
        · rename_i ps
          split at g4
          · rename_i q hq
            obtain ⟨v, u, h1, h2, h3, h4⟩ := h.cs x q hq
            have := SW.same_eq _ q g4
            subst this
            have g8 := g5
            cases es with
            | nil => simp [chkEs] at g5
            | cons a as =>
              simp only [chkEs, Bool.and_eq_true] at g8
              refine PE.g (ev_indexT h.un (pe_glob hg h1 h2 hd) h3 h4 (sEs b (a :: as) c W X _ h g5) rfl ?_ (by simpa using g2) (nost_one g8.1.1 _ _)) fun l => by rw [SW.evE, SW.evE]
              rw [nost_one g8.1.1]; rfl
          · cases g4
        · cases g4
      · cases g
    | join => unfold chkE at g; dsimp only at g; split at g <;> simp [meOk] at g
    | split => unfold chkE at g; dsimp only at g; split at g <;> simp [meOk] at g
    | _ => exact gen rfl (by unfold chkE at g; exact g)
  | .comp elt p it cs own, c, W, X, e, h, g => by
    unfold chkE at g
    split at g
    · split at g
      · rename_i x scope pos gs tg iter ifs
        simp only [Bool.and_eq_true] at g
        obtain ⟨⟨⟨⟨⟨⟨g1, g2⟩, g3⟩, g4⟩, g5⟩, g6⟩, g7⟩ := g
        have hk := blkC_kind g1
        refine PE.g (ev_lc (EC := EC) (W := W) (ownP := own.map fun i => (c.N.getD i "", i)) (p := p) h.calm h.nd ⟨sI b it c W X tg iter h g3, ?_, fun st H C cl fp => sP (h.blk hk st H C cl fp) p tg g4, fun st H C cl fp => sC b cs (c.blk scope) W0 _ ifs (h.blk hk st H C cl fp) g6, fun st H C cl fp => sE b elt (c.blk scope) W0 _ x (h.blk hk st H C cl fp) g7, noset_fold g2 _, pslots_own g5, SW.presC (SW.pres_callN T k) b cs, SW.presE (SW.pres_callN T k) b elt, there_evI it⟩ (finV_ok X.K)) fun l => ?_
        · rw [h.N, h.sc]; exact blkOk_by g1
        · rw [own_map, SW.evE]; rfl
      · cases g
    · cases g
  | .lenSet elt p it cs own, c, W, X, e, h, g => by
    unfold chkE at g
    split at g
    · split at g
      · rename_i y np x scope pos cp gs tg iter ifs
        rw [Bool.and_eq_true] at g
        obtain ⟨g0, g⟩ := g
        simp only [Bool.and_eq_true, decide_eq_true_eq] at g0
        obtain ⟨rfl, g0⟩ := g0
        simp only [Bool.and_eq_true] at g
        obtain ⟨⟨⟨⟨⟨⟨g1, g2⟩, g3⟩, g4⟩, g5⟩, g6⟩, g7⟩ := g
        have hk := blkC_kind g1
        refine PE.g (ev_lenSet (EC := EC) (W := W) (ownP := own.map fun i => (c.N.getD i "", i)) (p := p) (glB_gl h g0).1 (h.bi .len rfl) h.calm h.nd ⟨sI b it c W X tg iter h g3, ?_, fun st H C cl fp => sP (h.blk hk st H C cl fp) p tg g4, fun st H C cl fp => sC b cs (c.blk scope) W0 _ ifs (h.blk hk st H C cl fp) g6, fun st H C cl fp => sE b elt (c.blk scope) W0 _ x (h.blk hk st H C cl fp) g7, noset_fold g2 _, pslots_own g5, SW.presC (SW.pres_callN T k) b cs, SW.presE (SW.pres_callN T k) b elt, there_evI it⟩) fun l => ?_
        · rw [h.N, h.sc]; exact blkOk_by g1
        · rw [own_map, SW.evE]; rfl
      · cases g
    · cases g
  | .own f, c, W, X, e, h, g => by
    unfold chkE at g
    exact PE.g (sF b f c W X e h g) fun l => by rw [SW.evE]
  | .compK elt p i cs own, c, W, X, e, h, g => by
    unfold chkE at g
    split at g
    · split at g
      · rename_i x scope pos gs tg y yp ifs
        simp only [Bool.and_eq_true] at g
        obtain ⟨⟨⟨⟨⟨g1, g3⟩, g4⟩, g5⟩, g6⟩, g7⟩ := g
        have hk := blkC_kind g1
        refine PE.g (ev_lcK (EC := EC) (W := W) (i := i) (ownP := own.map fun i => (c.N.getD i "", i)) (p := p) h.calm h.nd ⟨var_pe h g3, ?_, fun st H C cl fp => sP (h.blk hk st H C cl fp) p tg g4, fun st H C cl fp => sC b cs (c.blk scope) W0 _ ifs (h.blk hk st H C cl fp) g6, fun st H C cl fp => sE b elt (c.blk scope) W0 _ x (h.blk hk st H C cl fp) g7, fun _ => rfl, pslots_own g5, SW.presC (SW.pres_callN T k) b cs, SW.presE (SW.pres_callN T k) b elt⟩) fun l => ?_
        · rw [h.N, h.sc]; exact blkOk_by g1
        · rw [own_map, SW.evE]; rfl
      · cases g
    · cases g
theorem sEs (b : Nat) : ∀ (as : List (E Fn)) (c : CC) (W : WX) (X : Cx) (es : List Expr), HX s T EC k c W X → chkEs s c as es = true → PA X es (liftA X.K EC W (SW.evEs (SW.callN T k) b as))
  | [], c, W, X, es, h, g => by
    cases es <;> simp [chkEs] at g
    exact PA.g ev_nil fun l => by rw [SW.evEs]
  | a :: as, c, W, X, es, h, g => by
    cases es with
    | nil => simp [chkEs] at g
    | cons e es =>
      simp only [chkEs, Bool.and_eq_true] at g
      exact PA.g (ev_cons (sE b a c W X e h g.1.2) (sEs b as c W X es h g.2) (nost_one g.1.1 _ _)) fun l => by rw [SW.evEs]
theorem sO (b : Nat) : ∀ (a : Option (E Fn)) (c : CC) (W : WX) (X : Cx) (e : Option Expr), HX s T EC k c W X → chkO s c a e = true → PO X e (liftO X.K EC W (SW.evO (SW.callN T k) b a))
  | none, c, W, X, e, h, g => by
    cases e <;> simp [chkO] at g
    have q : SW.evO (SW.callN T k) b none = fun _ => pure none := by funext l; rw [SW.evO]
    rw [q]
    exact po_no
  | some a, c, W, X, e, h, g => by
    cases e with
    | none => simp [chkO] at g
    | some e =>
      simp only [chkO] at g
      have q : SW.evO (SW.callN T k) b (some a) = (fun l => (do let v ← SW.evE (SW.callN T k) b a l; SW.optI (some v))) := by funext l; rw [SW.evO]
      rw [q]
      exact po_yes (sE b a c W X e h g)
theorem sC (b : Nat) : ∀ (ts : List (Cn Fn)) (c : CC) (W : WX) (X : Cx) (es : List Expr), HX s T EC k c W X → chkC s c ts es = true → PTs X es (liftT X.K EC W (SW.evC (SW.callN T k) b ts))
  | [], c, W, X, es, h, g => by
    cases es <;> simp [chkC] at g
    have q : SW.evC (SW.callN T k) b [] = fun _ => pure true := by funext l; rw [SW.evC]
    rw [q]
    exact ts_nil
  | t :: ts, c, W, X, es, h, g => by
    unfold chkC at g
    split at g
    · rename_i e
      have q : SW.evC (SW.callN T k) b [t] = (fun l => (do let x ← SW.evT (SW.callN T k) b t l; if x then pure true else pure false)) := by funext l; rw [SW.evC, SW.evC]
      rw [q]
      exact ts_one (sT b t c W X e h g).1
    · cases g
theorem sT (b : Nat) : ∀ (t : Cn Fn) (c : CC) (W : WX) (X : Cx) (e : Expr), HX s T EC k c W X → chkT s c t e = true → PT X e (liftT X.K EC W (SW.evT (SW.callN T k) b t)) ∧ ∀ op r pos, e = .BoolOp op r pos → PW X e (liftT X.K EC W (SW.evT (SW.callN T k) b t))
  | .and u v, c, W, X, e, h, g => by
    unfold chkT at g
    split at g
    · rename_i x y r pos
      simp only [Bool.and_eq_true] at g
      obtain ⟨g1, g2⟩ := g
      have key : PW X (.BoolOp .And (x :: y :: r) pos) (liftT X.K EC W (SW.evT (SW.callN T k) b (.and u v))) := by
        refine PW.g (tt_and (sT b u c W X x h g1).1 ?_) fun l => by rw [SW.evT] <;> rfl
        cases r with
        | nil => exact pw_and1 (sT b v c W X y h g2).1
        | cons z r => exact (sT b v c W X _ h g2).2 _ _ _ rfl
      exact ⟨key.pt, fun _ _ _ _ => key⟩
    · cases g
  | .or u v, c, W, X, e, h, g => by
    unfold chkT at g
    split at g
    · rename_i x y r pos
      simp only [Bool.and_eq_true] at g
      obtain ⟨g1, g2⟩ := g
      have key : PW X (.BoolOp .Or (x :: y :: r) pos) (liftT X.K EC W (SW.evT (SW.callN T k) b (.or u v))) := by
        refine PW.g (tt_or (sT b u c W X x h g1).1 ?_) fun l => by rw [SW.evT] <;> rfl
        cases r with
        | nil => exact pw_or1 (sT b v c W X y h g2).1
        | cons z r => exact (sT b v c W X _ h g2).2 _ _ _ rfl
      exact ⟨key.pt, fun _ _ _ _ => key⟩
    · cases g
  | .not u, c, W, X, e, h, g => by
    unfold chkT at g
    split at g
    · exact ⟨PT.g (tt_not (sT b u c W X _ h g).1) fun l => by rw [SW.evT] <;> rfl, fun _ _ _ z => by cases z⟩
    · cases g
  | .e a, c, W, X, e, h, g => by
    unfold chkT at g
    rw [Bool.and_eq_true] at g
    obtain ⟨g1, g2⟩ := g
    split at g1
    · split at g1
      · rename_i o x y
        refine ⟨?_, fun _ _ _ z => by cases z⟩
        unfold chkE at g2
        split at g2
        · rename_i e1
          unfold cmpB at g2
          simp only [Bool.and_eq_true, decide_eq_true_eq] at g2
          obtain ⟨⟨⟨rfl, g0⟩, g3⟩, g4⟩ := g2
          cases e1
          exact PT.g (tt_cmp1 h.un (sE b x c W X _ h g3) (sE b y c W X _ h g4) (noset_marks g0 _)) fun l => by rw [SW.evT, SW.evE]
        · cases g2
      · rename_i o p x y z
        refine ⟨?_, fun _ _ _ z => by cases z⟩
        unfold chkE at g2
        split at g2
        · rename_i e1
          unfold cmpB at g2
          simp only [Bool.and_eq_true, decide_eq_true_eq] at g2
          obtain ⟨⟨⟨⟨⟨rfl, rfl⟩, g0⟩, g3⟩, g4⟩, g5⟩ := g2
          cases e1
          exact PT.g (tt_cmp2 h.un (sE b x c W X _ h g3) (sE b y c W X _ h g4) (sE b z c W X _ h g5) (noset_marks g0 _)) fun l => by rw [SW.evT, SW.evE]; rfl
        · cases g2
      · cases g1
    · refine ⟨PT.g (tt_val (sE b a c W X _ h g2) (tv_eq g1 _)) fun l => by rw [SW.evT], fun op r pos z => ?_⟩
      subst z
      cases g1
theorem sF (b : Nat) : ∀ (f : OF Fn) (c : CC) (W : WX) (X : Cx) (e : Expr), HX s T EC k c W X → chkF s c f e = true → PE X e (liftE X.K EC W fun l => do let o ← SW.evF (SW.callN T k) b f l; newO o)
  | .lst es, c, W, X, e, h, g => by
    unfold chkF at g
    split at g
    · simp only [Bool.and_eq_true] at g
      have hl := Nat.le_of_ble_eq_true g.1
      exact PE.g (ev_newlst (sEs b es c W X _ h g.2) (fun l μ vs ν e => by rw [evEs_len es l μ vs ν e]; omega)) fun l => by rw [SW.evF]
    · cases g
  | .dk, c, W, X, e, h, g => by
    unfold chkF at g
    split at g
    · exact PE.g ev_dk fun l => by rw [SW.evF]
    · cases g
  | .dt, c, W, X, e, h, g => by
    unfold chkF at g
    split at g
    · exact PE.g ev_dt fun l => by rw [SW.evF]
    · cases g
  | .rep x y, c, W, X, e, h, g => by
    unfold chkF at g
    split at g
    · simp only [Bool.and_eq_true] at g
      refine PE.g (ev_rep (sE b x c W X _ h g.1) (sE b y c W X _ h g.2)) fun l => ?_
      rw [SW.evF, m_assoc]
      congr 1
      funext u
      rw [m_assoc]
      rfl
    · cases g
  | .comp elt p it cs own, c, W, X, e, h, g => by
    unfold chkF at g
    split at g
    · split at g
      · rename_i x scope pos gs tg iter ifs
        simp only [Bool.and_eq_true] at g
        obtain ⟨⟨⟨⟨⟨⟨g1, g2⟩, g3⟩, g4⟩, g5⟩, g6⟩, g7⟩ := g
        have hk := blkC_kind g1
        refine PE.g (ev_lc (EC := EC) (W := W) (ownP := own.map fun i => (c.N.getD i "", i)) (p := p) h.calm h.nd ⟨sI b it c W X tg iter h g3, ?_, fun st H C cl fp => sP (h.blk hk st H C cl fp) p tg g4, fun st H C cl fp => sC b cs (c.blk scope) W0 _ ifs (h.blk hk st H C cl fp) g6, fun st H C cl fp => sE b elt (c.blk scope) W0 _ x (h.blk hk st H C cl fp) g7, noset_fold g2 _, pslots_own g5, SW.presC (SW.pres_callN T k) b cs, SW.presE (SW.pres_callN T k) b elt, there_evI it⟩ (finO_ok X.K)) fun l => ?_
        · rw [h.N, h.sc]; exact blkOk_by g1
        · rw [own_map, SW.evF]
          unfold gComp finO
          rw [m_assoc]; congr 1; funext r
          rw [m_assoc]; congr 1; funext ls
          rw [m_assoc]; congr 1; funext ys
          rw [m_assoc]
      · cases g
    · cases g
  | .dcomp k' e' p it cs own, c, W, X, e, h, g => by
    unfold chkF at g
    split at g
    · split at g
      · rename_i x y scope pos gs tg iter ifs
        simp only [Bool.and_eq_true] at g
        obtain ⟨⟨⟨⟨⟨⟨⟨g1, g2⟩, g3⟩, g4⟩, g5⟩, g6⟩, g7⟩, g8⟩ := g
        have hk := blkC_kind g1
        refine PE.g (ev_dc (EC := EC) (W := W) (ownP := own.map fun i => (c.N.getD i "", i)) (p := p) h.calm h.nd (sI b it c W X tg iter h g3) (fun l μ r μ' => there_evI it l μ r μ') ⟨?_, fun st H C cl fp => sP (h.blk hk st H C cl fp) p tg g4, fun st H C cl fp => sC b cs (c.blk scope) W0 _ ifs (h.blk hk st H C cl fp) g6, fun st H C cl fp => sE b k' (c.blk scope) W0 _ x (h.blk hk st H C cl fp) g7, fun st H C cl fp => sE b e' (c.blk scope) W0 _ y (h.blk hk st H C cl fp) g8, noset_fold g2 _, pslots_own g5, SW.presC (SW.pres_callN T k) b cs, SW.presE (SW.pres_callN T k) b k', SW.presE (SW.pres_callN T k) b e'⟩) fun l => ?_
        · rw [h.N, h.sc]; exact blkOk_by g1
        · rw [own_map, SW.evF]
          unfold gDComp finD
          rw [m_assoc]; congr 1; funext r
          rw [m_assoc]; congr 1; funext ls
          rw [m_assoc]; congr 1; funext ys
          rw [m_assoc]
      · cases g
    · cases g
  | .dcompK k' e' p i cs own, c, W, X, e, h, g => by
    unfold chkF at g
    split at g
    · split at g
      · rename_i x y scope pos gs tg z zp ifs
        simp only [Bool.and_eq_true] at g
        obtain ⟨⟨⟨⟨⟨⟨g1, g3⟩, g4⟩, g5⟩, g6⟩, g7⟩, g8⟩ := g
        have hk := blkC_kind g1
        refine PE.g (ev_dcK (EC := EC) (W := W) (i := i) (ownP := own.map fun i => (c.N.getD i "", i)) (p := p) h.calm h.nd (var_pe h g3) ⟨?_, fun st H C cl fp => sP (h.blk hk st H C cl fp) p tg g4, fun st H C cl fp => sC b cs (c.blk scope) W0 _ ifs (h.blk hk st H C cl fp) g6, fun st H C cl fp => sE b k' (c.blk scope) W0 _ x (h.blk hk st H C cl fp) g7, fun st H C cl fp => sE b e' (c.blk scope) W0 _ y (h.blk hk st H C cl fp) g8, fun _ => rfl, pslots_own g5, SW.presC (SW.pres_callN T k) b cs, SW.presE (SW.pres_callN T k) b k', SW.presE (SW.pres_callN T k) b e'⟩) fun l => ?_
        · rw [h.N, h.sc]; exact blkOk_by g1
        · rw [own_map, SW.evF]
          funext μ
          refine (onKeys_new (fun xs => ?_) μ).trans ?_
          · refine SW.Pres.bind (SW.pres_compL (fun x => SW.Pres.noX ?_) xs) fun ys => SW.Pres.ite (SW.Pres.bind (SW.Still.ofO _).pres fun d => SW.Pres.pure _) SW.Pres.no
            split
            · exact SW.Pres.bind (SW.presC (SW.pres_callN T k) b cs _) fun ok => SW.Pres.ite (SW.Pres.bind (SW.presE (SW.pres_callN T k) b k' _) fun v => SW.Pres.bind (SW.still_flat v).pres fun y => SW.Pres.bind (SW.presE (SW.pres_callN T k) b e' _) fun v => SW.Pres.bind (SW.still_flat v).pres fun y => SW.Pres.pure _) (SW.Pres.pure _)
            · exact SW.Pres.no
          · unfold gDCompK finD
            congr 1
            funext xs
            rw [m_assoc]
            rfl
      · cases g
    · cases g
  | .listOf a, c, W, X, e, h, g => by
    unfold chkF at g
    split at g
    · rename_i x p1 y p2
      simp only [Bool.and_eq_true, decide_eq_true_eq] at g
      obtain ⟨⟨⟨rfl, g2⟩, g3⟩, g4⟩ := g
      obtain ⟨hg, hd⟩ := glB_gl h g2
      exact PE.g (ev_listOf hg (h.bi .listOf rfl) (sE b a c W X y h g4) (nost_one g3 _ _)) fun l => by rw [SW.evF] <;> rfl
    · cases g
  | .dictOf a, c, W, X, e, h, g => by simp [chkF] at g
theorem sI (b : Nat) : ∀ (it : SW.It Fn) (c : CC) (W : WX) (X : Cx) (tg e : Expr), HX s T EC k c W X → chkI s c it tg e = true → PI X tg e (liftI X.K EC W (SW.evI (SW.callN T k) b it))
  | .seq a, c, W, X, tg, e, h, g => by
    unfold chkI at g
    exact PI.g (ei_seq (sE b a c W X e h g)) fun l => by rw [SW.evI]
  | .range1 a, c, W, X, tg, e, h, g => by
    unfold chkI at g
    split at g
    · simp only [Bool.and_eq_true, decide_eq_true_eq] at g
      obtain ⟨⟨⟨rfl, g2⟩, g3⟩, g4⟩ := g
      obtain ⟨hg, hd⟩ := glB_gl h g2
      exact PI.g (ei_range1 hg h.mr (sE b a c W X _ h g4) (nost_one g3 _ _)) fun l => by rw [SW.evI] <;> rfl
    · cases g
  | .range2 a d, c, W, X, tg, e, h, g => by
    unfold chkI at g
    split at g
    · simp only [Bool.and_eq_true, decide_eq_true_eq] at g
      obtain ⟨⟨⟨⟨⟨rfl, g2⟩, g3⟩, g3'⟩, g4⟩, g5⟩ := g
      obtain ⟨hg, hd⟩ := glB_gl h g2
      exact PI.g (ei_range2 hg h.mr (sE b a c W X _ h g4) (sE b d c W X _ h g5) (by rw [nost_one g3, nost_one g3']; rfl) (nost_one g3' _ _)) fun l => by rw [SW.evI] <;> rfl
    · cases g
  | .enum a, c, W, X, tg, e, h, g => by
    unfold chkI at g
    split at g
    · split at g
      · simp only [Bool.and_eq_true, decide_eq_true_eq] at g
        obtain ⟨⟨⟨rfl, g2⟩, g3⟩, g4⟩ := g
        obtain ⟨hg, hd⟩ := glB_gl h g2
        exact PI.g (ei_enum hg h.me (sE b a c W X _ h g4) (nost_one g3 _ _)) fun l => by rw [SW.evI]
      · cases g
    · cases g
  | .zip a d, c, W, X, tg, e, h, g => by
    unfold chkI at g
    split at g
    · split at g
      · simp only [Bool.and_eq_true, decide_eq_true_eq] at g
        obtain ⟨⟨⟨⟨⟨rfl, g2⟩, g3⟩, g3'⟩, g4⟩, g5⟩ := g
        obtain ⟨hg, hd⟩ := glB_gl h g2
        exact PI.g (ei_zip hg h.mz (sE b a c W X _ h g4) (sE b d c W X _ h g5) (nost_one g3 _ _) (nost_one g3' _ _) (by rw [nost_one g3']; rfl)) fun l => by rw [SW.evI]
      · cases g
    · cases g
end
end
end SWS
end
section
set_option maxRecDepth 100000
set_option maxHeartbeats 4000000
/-! Statements and defs checked. -/
namespace SWS
open PySem PySem.Spec PyProof.Rows L2
open SW (PV Val MO Ky Mem Res M E OF Cn Pat Fl view flat flats ofO bin2 Srcs Keeps Pres Mode FD newO Bi Me S)
/-- does the value's block take the name's place -/
def swT (sc : Scope) (value target : Expr) : Bool := match value with
  | .ListComp _ _ s p => (match target with | .Name t pos => sc.names.lookup t == some .local && pos.line == p.line && !(s.names.any fun (n, k) => n == t && (k == .local || k == .cell)) | _ => false)
  | .SetComp _ _ s p => (match target with | .Name t pos => sc.names.lookup t == some .local && pos.line == p.line && !(s.names.any fun (n, k) => n == t && (k == .local || k == .cell)) | _ => false)
  | .DictComp _ _ _ s p => (match target with | .Name t pos => sc.names.lookup t == some .local && pos.line == p.line && !(s.names.any fun (n, k) => n == t && (k == .local || k == .cell)) | _ => false)
  | _ => false
theorem swT_eq {env : Env} (hk : env.scope.kind = .function) (value target : Expr) (l : Nat) : swapsWith value (some target) l env = pure (swT env.scope value target) := by
  have hb : env.blockKind = .function := by unfold Env.blockKind; rw [hk]; rfl
  unfold swapsWith swT
  cases value <;> first
    | rfl
    | (cases target <;> first | rfl | (simp only [hb, Env.kindOf, Expr.pos]; rfl))
def nocomp : Expr → Bool
  | .ListComp _ _ _ _ => false
  | .SetComp _ _ _ _ => false
  | .DictComp _ _ _ _ _ => false
  | _ => true
theorem nocomp_sw {e : Expr} (h : nocomp e = true) (l : Nat) (env : Env) : swapsWith e none l env = pure false := by
  cases e <;> first | rfl | cases h
/-- the names that are stored from the right; none: unsaid -/
def swN (sc : Scope) (ts vs : List Expr) : Option (Option (List Str)) :=
  if (!(ts.length == 2 || ts.length == 3) || vs.length != ts.length) = true then some none else
  if (vs.any fun | .Starred .. => true | _ => false) = true then some none else
  let line := (ts.head?.map (·.pos.line)).getD 0
  let names := ts.filterMap fun
    | .Name id pos => if (sc.names.lookup id == some .local && pos.line == line) = true then some id else none
    | _ => none
  if (names.length != ts.length || names.eraseDups.length != names.length) = true then some none else
  if vs.all (foldedForSure 8) = true then some none else
  if vs.all (constantsAlone 8) = true then none else some (some names)
theorem swN_eq {env : Env} (hk : env.scope.kind = .function) {ts vs : List Expr} {r : Option (List Str)} {k1 k2 : Nat} {p1 p2 : Pos} (h : swN env.scope ts vs = some r) : swappedStores [.Tuple ts k1 p1] (.Tuple vs k2 p2) env = pure r := by
  have hb : env.blockKind = .function := by unfold Env.blockKind; rw [hk]; rfl
  unfold swN at h
  unfold swappedStores
  simp only [hb, Env.kindOf]
  have e0 : (ScopeKind.function != ScopeKind.function) = false := rfl
  rw [e0, Bool.or_false]
  split at h
  · rename_i h1
    cases h
    exact if_pos h1
  · rename_i h1
    refine (if_neg h1).trans ?_
    split at h
    · rename_i h2
      cases h
      exact if_pos h2
    · rename_i h2
      refine (if_neg h2).trans ?_
      dsimp only at h
      split at h
      · rename_i h3
        cases h
        exact if_pos h3
      · rename_i h3
        refine (if_neg h3).trans ?_
        split at h
        · rename_i h4
          cases h
          exact if_pos h4
        · rename_i h4
          refine (if_neg h4).trans ?_
          split at h
          · cases h
          · rename_i h5
            cases h
            exact if_neg h5
theorem swN_len {sc : Scope} {ts vs : List Expr} {ns : List Str} (h : swN sc ts vs = some (some ns)) : vs.length = ts.length := by
  unfold swN at h
  split at h
  · cases h
  · rename_i h1
    simp only [Bool.or_eq_true, not_or, bne_iff_ne, ne_eq, Decidable.not_not] at h1
    exact h1.2
/-- the value is not stored name by name -/
def plainB (sc : Scope) (tg v : Expr) : Bool := match tg with
  | .Tuple ts _ _ => (match v with | .Tuple vs _ _ => (match swN sc ts vs with | some none => true | _ => false) | _ => true)
  | .List _ _ => false
  | _ => true
theorem plainB_eq {env : Env} (hk : env.scope.kind = .function) {tg v : Expr} (h : plainB env.scope tg v = true) : swappedStores [tg] v env = pure none := by
  cases tg with
  | Tuple ts k1 p1 =>
    cases v with
    | Tuple vs k2 p2 =>
      unfold plainB at h
      dsimp only at h
      split at h
      · rename_i h1; exact swN_eq hk h1
      · cases h
    | _ => rfl
  | List ts p1 => cases h
  | _ => cases v <;> rfl
def locB (c : CC) (i : Nat) (x : Str) : Bool := decide (c.N[i]? = some x) && (match c.sc.names.lookup x with | some .local => true | some .cell => c.fn x | _ => false)
/-- names of plain locals, at places that differ -/
def parB (c : CC) : List Nat → List Expr → Bool
  | [], es => match es with | [] => true | _ => false
  | i :: is, es => match es with
    | .Name x _ :: es => decide (c.N[i]? = some x) && (match c.sc.names.lookup x with | some .local => true | _ => false) && !is.contains i && parB c is es
    | _ => false
def namesOf (es : List Expr) : List Str := es.filterMap fun | .Name x _ => some x | _ => none
section
variable {Fn : Type} (s : SE Fn)
/-- an except clause -/
def tryB (c : CC) (n : Nat) (k : Option Nat) (r : Option PV) (x : Str) (nm : Option Str) (suite : List Stmt) : Bool := match r with
  | none => (match nm, suite with
    | some y, [.Return (some (.Call (.Name z _) [.Name u _] [] _)) _] => decide (z = ("_law_which" : Str)) && glB c z && decide (x = ("SiteError" : Str)) && k.isNone && Nat.beq n 16 && s.wq && decide (u = y) && decide (c.N[c.N.idxOf y]? = some y) &&
      (match c.sc.names.lookup y with | some .local => true | _ => false) && !(y == ("__debug__" : Str)) && !(y == ("__classdict__" : Str))
    | _, _ => false)
  | some p => constPV p && nm.isNone && (match k with | none => decide (x = ("SiteError" : Str)) | some d => decide (s.xn[d]? = some x)) && Nat.beq n s.xn.length && !s.xn.isEmpty && (match suite with
    | [.Return (some (.Constant kk _ _)) _] => constB p kk
    | _ => false)
mutual
def chkS (c : CC) : S Fn → Stmt → Bool
  | .asg p e, st => match st with
    | .Assign [tg] v _ => if swT c.sc v tg then (match p, tg, v with
        | .v i, .Name x _, .ListComp _ _ _ _ => decide (c.N[i]? = some x) && (match e with | .comp _ _ _ _ _ => true | .own (.comp _ _ _ _ _) => true | .compK _ _ _ _ _ => true | _ => false) && chkE s c e v
        | .v i, .Name x _, .DictComp _ _ _ _ _ => decide (c.N[i]? = some x) && (match e with | .own (.dcomp _ _ _ _ _ _) => true | .own (.dcompK _ _ _ _ _ _) => true | _ => false) && chkE s c e v
        | _, _, _ => false)
      else nost tg && chkP c p tg && chkE s c e v && plainB c.sc tg v
    | _ => false
  | .par is es, st => match st with
    | .Assign [.Tuple ts _ _] (.Tuple vs _ _) _ => chkEs s c es vs && ((parB c is ts && Nat.blt 1 is.length && Nat.blt is.length 4 && decide (swN c.sc ts vs = some (some (namesOf ts)))) || (Nat.ble es.length 1000 && chkPs c (is.map Pat.v) ts && decide (swN c.sc ts vs = some none)))
    | _ => false
  | .aug i o e, st => match st with
    | .AugAssign (.Name x _) op v _ => locB c i x && augOk o && opB o op && chkE s c e v
    | _ => false
  | .setItem o i e, st => match st with
    | .Assign [.Subscript x y _] v _ => nosl y && chkE s c o x && chkE s c i y && chkE s c e v
    | _ => false
  | .setTup o is e, st => match st with
    | .Assign [.Subscript x (.Tuple ys _ _) _] v _ => Nat.ble is.length 1000 && chkE s c o x && chkEs s c is ys && chkE s c e v
    | _ => false
  | .expr e, st => match st with
    | .Expr v _ => nocomp v && chkE s c e v
    | _ => false
  | .ret e, st => match st with
    | .Return (some v) _ => chkE s c e v
    | _ => false
  | .ite t a b, st => match st with
    | .If z x y _ => chkT s c t z && chkB c a x && chkB c b y
    | _ => false
  | .for p it body, st => match st with
    | .For tg iter x [] _ => noset iter && chkI s c it tg iter && chkP c p tg && chkB c body x
    | _ => false
  | .forK p i body, st => match st with
    | .For tg (.Name y _) x [] _ => varB c i y && chkP c p tg && chkB c body x
    | _ => false
  | .whl t body, st => match st with
    | .While z x [] _ => chkT s c t z && chkB c body x
    | _ => false
  | .raise d, st => match st with
    | .Raise (some (.Call (.Name x _) [.Constant (.str _) _ _] [] _)) none _ => decide (s.xn[d]? = some x) && glB c x
    | _ => false
  | .bad, _ => true
  | .tryX n k r body, st => match st with
    | .Try bd [.ExceptHandler (some (.Name x _)) nm suite _] [] [] _ => c.tp && glB c x && chkB c body bd && tryB s c n k r x nm suite
    | _ => false
def chkB (c : CC) : List (S Fn) → List Stmt → Bool
  | [], sts => match sts with | [] => true | _ => false
  | a :: as, sts => match sts with
    | [] => false
    | st :: sts => chkS c a st && chkB c as sts
end
end
section
variable {Fn : Type} {s : SE Fn} {T : Fn → FD Fn} {EC : Nat → Value} {k : Nat}
theorem lcOk_of {c : CC} {W : WX} {X : Cx} (h : HX s T EC k c W X) (b : Nat) {elt : E Fn} {p : Pat} {it : SW.It Fn} {cs : List (Cn Fn)} {own : List Nat} {x tg iter : Expr} {ifs : List Expr} {scope : Scope}
    (g : (blkC c.N c.sc scope (own.map fun i => (c.N.getD i "", i)) && noset iter && chkI s c it tg iter && chkP (c.blk scope) p tg && (pslots p).all (fun i => own.contains i) && chkC s (c.blk scope) cs ifs && chkE s (c.blk scope) elt x) = true) :
    LcOk X EC W x tg iter ifs scope (own.map fun i => (c.N.getD i "", i)) (SW.evI (SW.callN T k) b it) p (SW.evC (SW.callN T k) b cs) (SW.evE (SW.callN T k) b elt) := by
  simp only [Bool.and_eq_true] at g
  obtain ⟨⟨⟨⟨⟨⟨g1, g2⟩, g3⟩, g4⟩, g5⟩, g6⟩, g7⟩ := g
  have hk := blkC_kind g1
  exact ⟨sI b it c W X tg iter h g3, by rw [h.N, h.sc]; exact blkOk_by g1, fun st H C cl fp => sP (h.blk hk st H C cl fp) p tg g4, fun st H C cl fp => sC b cs (c.blk scope) W0 _ ifs (h.blk hk st H C cl fp) g6, fun st H C cl fp => sE b elt (c.blk scope) W0 _ x (h.blk hk st H C cl fp) g7, noset_fold g2 _, pslots_own g5, SW.presC (SW.pres_callN T k) b cs, SW.presE (SW.pres_callN T k) b elt, there_evI it⟩
theorem sw_sole {env : Env} (hk : env.scope.kind = .function) (tg v : Expr) (l : Nat) : swapsWithSole [tg] v l env = pure (swT env.scope v tg) := swT_eq hk v tg l
mutual
theorem sS (b : Nat) : ∀ (a : S Fn) (c : CC) (W : WX) (X : Cx) (st : Stmt), HX s T EC k c W X → PassesOwn (model X.prog X.w) X.A X.env X.xe → chkS s c a st = true → PS X st (liftS X.K EC W (SW.evS (SW.callN T k) b a))
  | .asg p e, c, W, X, st, h, hp, g => by
    have hk : X.env.scope.kind = .function := by rw [h.sc]; exact h.kind
    unfold chkS at g
    split at g
    · rename_i tg v pos
      by_cases hs : swT c.sc v tg = true
      · rw [if_pos hs] at g
        split at g
        · rename_i i x py elt gens scope p2
          simp only [Bool.and_eq_true, decide_eq_true_eq] at g
          obtain ⟨⟨g1, g2⟩, g3⟩ := g
          have hsw : swapsWith (.ListComp elt gens scope p2) (some (.Name x py)) pos.line X.env = pure true := by
            rw [swT_eq hk, h.sc, hs]
          have hl : X.env.scope.names.lookup x = some .local := by
            rw [h.sc]
            unfold swT at hs
            simp only [Bool.and_eq_true, beq_iff_eq] at hs
            exact hs.1.1
          split at g2
          · rename_i ee pp it cs own
            unfold chkE at g3
            dsimp only at g3
            split at g3
            · rename_i tg2 iter ifs
              refine PS.g (es_setLc (EC := EC) (W := W) h.calm h.nd (by rw [h.N]; exact g1) hl hsw (lcOk_of h b g3) (finV_ok X.K)) fun l => ?_
              rw [own_map, SW.evS, SW.evE]; rfl
            · cases g3
          · rename_i ee pp it cs own
            unfold chkE chkF at g3
            dsimp only at g3
            split at g3
            · rename_i tg2 iter ifs
              refine PS.g (es_setLc (EC := EC) (W := W) h.calm h.nd (by rw [h.N]; exact g1) hl hsw (lcOk_of h b g3) (finO_ok X.K)) fun l => ?_
              rw [own_map, SW.evS, SW.evE, SW.evF]
              congr 1
              unfold gComp finO
              rw [m_assoc]; congr 1; funext r
              rw [m_assoc]; congr 1; funext ls
              rw [m_assoc]; congr 1; funext ys
              rw [m_assoc]
            · cases g3
          · rename_i ee pp j cs own
            unfold chkE at g3
            dsimp only at g3
            split at g3
            · rename_i tg2 z zp ifs
              simp only [Bool.and_eq_true] at g3
              obtain ⟨⟨⟨⟨⟨a1, a3⟩, a4⟩, a5⟩, a6⟩, a7⟩ := g3
              have hk2 := blkC_kind a1
              refine PS.g (es_setLcK (EC := EC) (W := W) (i := j) (ownP := own.map fun i => (c.N.getD i "", i)) (p := pp) h.calm h.nd (by rw [h.N]; exact g1) hl hsw ⟨var_pe h a3, ?_, fun st H C cl fp => sP (h.blk hk2 st H C cl fp) pp tg2 a4, fun st H C cl fp => sC b cs (c.blk scope) W0 _ ifs (h.blk hk2 st H C cl fp) a6, fun st H C cl fp => sE b ee (c.blk scope) W0 _ elt (h.blk hk2 st H C cl fp) a7, fun _ => rfl, pslots_own a5, SW.presC (SW.pres_callN T k) b cs, SW.presE (SW.pres_callN T k) b ee⟩) fun l => ?_
              · rw [h.N, h.sc]; exact blkOk_by a1
              · rw [own_map, SW.evS, SW.evE]; rfl
            · cases g3
          · cases g2
        · rename_i i x py kx vx gens scope p2
          simp only [Bool.and_eq_true, decide_eq_true_eq] at g
          obtain ⟨⟨g1, g2⟩, g3⟩ := g
          have hsw : swapsWith (.DictComp kx vx gens scope p2) (some (.Name x py)) pos.line X.env = pure true := by
            rw [swT_eq hk, h.sc, hs]
          have hl : X.env.scope.names.lookup x = some .local := by
            rw [h.sc]
            unfold swT at hs
            simp only [Bool.and_eq_true, beq_iff_eq] at hs
            exact hs.1.1
          split at g2
          · rename_i ke ee pp it cs own
            unfold chkE chkF at g3
            dsimp only at g3
            split at g3
            · rename_i tg2 iter ifs
              simp only [Bool.and_eq_true] at g3
              obtain ⟨⟨⟨⟨⟨⟨⟨a1, a2⟩, a3⟩, a4⟩, a5⟩, a6⟩, a7⟩, a8⟩ := g3
              have hk2 := blkC_kind a1
              refine PS.g (es_setDc (EC := EC) (W := W) (ownP := own.map fun i => (c.N.getD i "", i)) (p := pp) h.calm h.nd (by rw [h.N]; exact g1) hl hsw (sI b it c W X tg2 iter h a3) (fun l μ r μ' => there_evI it l μ r μ') ⟨?_, fun st H C cl fp => sP (h.blk hk2 st H C cl fp) pp tg2 a4, fun st H C cl fp => sC b cs (c.blk scope) W0 _ ifs (h.blk hk2 st H C cl fp) a6, fun st H C cl fp => sE b ke (c.blk scope) W0 _ kx (h.blk hk2 st H C cl fp) a7, fun st H C cl fp => sE b ee (c.blk scope) W0 _ vx (h.blk hk2 st H C cl fp) a8, noset_fold a2 _, pslots_own a5, SW.presC (SW.pres_callN T k) b cs, SW.presE (SW.pres_callN T k) b ke, SW.presE (SW.pres_callN T k) b ee⟩) fun l => ?_
              · rw [h.N, h.sc]; exact blkOk_by a1
              · rw [own_map, SW.evS, SW.evE, SW.evF]
                congr 1
                unfold gDComp finD
                rw [m_assoc]; congr 1; funext r
                rw [m_assoc]; congr 1; funext ls
                rw [m_assoc]; congr 1; funext ys
                rw [m_assoc]
            · cases g3
          · rename_i ke ee pp j cs own
            unfold chkE chkF at g3
            dsimp only at g3
            split at g3
            · rename_i tg2 z zp ifs
              simp only [Bool.and_eq_true] at g3
              obtain ⟨⟨⟨⟨⟨⟨a1, a3⟩, a4⟩, a5⟩, a6⟩, a7⟩, a8⟩ := g3
              have hk2 := blkC_kind a1
              refine PS.g (es_setDcK (EC := EC) (W := W) (i := j) (ownP := own.map fun i => (c.N.getD i "", i)) (p := pp) h.calm h.nd (by rw [h.N]; exact g1) hl hsw (var_pe h a3) ⟨?_, fun st H C cl fp => sP (h.blk hk2 st H C cl fp) pp tg2 a4, fun st H C cl fp => sC b cs (c.blk scope) W0 _ ifs (h.blk hk2 st H C cl fp) a6, fun st H C cl fp => sE b ke (c.blk scope) W0 _ kx (h.blk hk2 st H C cl fp) a7, fun st H C cl fp => sE b ee (c.blk scope) W0 _ vx (h.blk hk2 st H C cl fp) a8, fun _ => rfl, pslots_own a5, SW.presC (SW.pres_callN T k) b cs, SW.presE (SW.pres_callN T k) b ke, SW.presE (SW.pres_callN T k) b ee⟩) fun l => ?_
              · rw [h.N, h.sc]; exact blkOk_by a1
              · rw [own_map, SW.evS, SW.evE, SW.evF]
                congr 1
                funext μ
                refine (onKeys_new (fun xs => ?_) μ).trans ?_
                · refine SW.Pres.bind (SW.pres_compL (fun x => SW.Pres.noX ?_) xs) fun ys => SW.Pres.ite (SW.Pres.bind (SW.Still.ofO _).pres fun d => SW.Pres.pure _) SW.Pres.no
                  split
                  · exact SW.Pres.bind (SW.presC (SW.pres_callN T k) b cs _) fun ok => SW.Pres.ite (SW.Pres.bind (SW.presE (SW.pres_callN T k) b ke _) fun v => SW.Pres.bind (SW.still_flat v).pres fun y => SW.Pres.bind (SW.presE (SW.pres_callN T k) b ee _) fun v => SW.Pres.bind (SW.still_flat v).pres fun y => SW.Pres.pure _) (SW.Pres.pure _)
                  · exact SW.Pres.no
                · unfold gDCompK finD
                  congr 1
                  funext xs
                  rw [m_assoc]
                  rfl
            · cases g3
          · cases g2
        · cases g
      · rw [if_neg hs] at g
        simp only [Bool.and_eq_true] at g
        obtain ⟨⟨⟨g1, g2⟩, g3⟩, g4⟩ := g
        have hs : swT c.sc v tg = false := by simpa using hs
        refine PS.g (es_asg (sE b e c W X v h g3) (sP h p tg g2) (by rw [sw_sole hk, h.sc, hs]) (plainB_eq hk (by rw [h.sc]; exact g4)) ?_) fun l => by rw [SW.evS]
        cases tg <;> first | rfl | cases g1
    · cases g
  | .par is es, c, W, X, st, h, hp, g => by
    have hk : X.env.scope.kind = .function := by rw [h.sc]; exact h.kind
    unfold chkS at g
    split at g
    · rename_i ts kt pt vs k2 p2 pos
      rw [Bool.and_eq_true, Bool.or_eq_true] at g
      obtain ⟨g2, g | g⟩ := g
      rotate_left
      · simp only [Bool.and_eq_true, decide_eq_true_eq] at g
        obtain ⟨⟨g1, g3⟩, g5⟩ := g
        have g1 : es.length ≤ 1000 := Nat.le_of_ble_eq_true g1
        have z := sPs_len (s := s) (T := T) (EC := EC) (k := k) (W := W) (X := X) (is.map Pat.v) ts g3 X.env
        rw [List.length_map] at z
        exact PS.g (es_parT h.calm (sEs b es c W X _ h g2) (fun l μ us ν hq => by rw [evEs_len es l μ us ν hq]; omega) (sPs h (is.map Pat.v) ts g3) z.1 z.2 (swN_eq hk (by rw [h.sc]; exact g5))) fun l => by rw [SW.evS]
      simp only [Bool.and_eq_true, decide_eq_true_eq] at g
      obtain ⟨⟨⟨g1, g3⟩, g4⟩, g5⟩ := g
      have g3 : 1 < is.length := Nat.le_of_ble_eq_true g3
      have g4 : is.length < 4 := Nat.le_of_ble_eq_true g4
      have hsw := swN_eq (env := X.env) (k1 := kt) (k2 := k2) (p1 := pt) (p2 := p2) hk (by rw [h.sc]; exact g5)
      have hnl : ∀ {x : Str}, (match c.sc.names.lookup x with | some .local => true | _ => false) = true → X.env.scope.names.lookup x = some .local := by
        intro x hx
        rw [h.sc]
        split at hx
        · assumption
        · cases hx
      have hlen := swN_len g5
      have two : ∀ {i j : Nat} {ts : List Expr}, parB c [i, j] ts = true → ∃ x px y py, ts = [.Name x px, .Name y py] ∧ c.N[i]? = some x ∧ c.N[j]? = some y ∧ i ≠ j ∧ X.env.scope.names.lookup x = some .local ∧ X.env.scope.names.lookup y = some .local := by
        intro i j ts q
        unfold parB at q
        split at q
        · simp only [Bool.and_eq_true, decide_eq_true_eq] at q
          obtain ⟨⟨⟨q1, q2⟩, q3⟩, q4⟩ := q
          unfold parB at q4
          split at q4
          · simp only [Bool.and_eq_true, decide_eq_true_eq] at q4
            obtain ⟨⟨⟨r1, r2⟩, r3⟩, r4⟩ := q4
            unfold parB at r4
            split at r4
            · refine ⟨_, _, _, _, rfl, q1, r1, ?_, hnl q2, hnl r2⟩
              simpa using q3
            · cases r4
          · cases q4
        · cases q
      have three : ∀ {i j l : Nat} {ts : List Expr}, parB c [i, j, l] ts = true → ∃ x px y py z pz, ts = [.Name x px, .Name y py, .Name z pz] ∧ c.N[i]? = some x ∧ c.N[j]? = some y ∧ c.N[l]? = some z ∧ i ≠ j ∧ i ≠ l ∧ j ≠ l ∧ X.env.scope.names.lookup x = some .local ∧ X.env.scope.names.lookup y = some .local ∧ X.env.scope.names.lookup z = some .local := by
        intro i j l ts q
        unfold parB at q
        split at q
        · simp only [Bool.and_eq_true, decide_eq_true_eq] at q
          obtain ⟨⟨⟨q1, q2⟩, q3⟩, q4⟩ := q
          obtain ⟨x2, p2, y2, p3, rfl, r1, r2, r3, r4, r5⟩ := two q4
          have q3 : i ≠ j ∧ i ≠ l := by simpa using q3
          exact ⟨_, _, _, _, _, _, rfl, q1, r1, r2, q3.1, q3.2, r3, hnl q2, r4, r5⟩
        · cases q
      cases is with
      | nil => simp at g3
      | cons i is =>
        cases is with
        | nil => simp at g3
        | cons j is =>
          cases is with
          | nil =>
            obtain ⟨x, px, y, py, rfl, n1, n2, hij, l1, l2⟩ := two g1
            cases vs with
            | nil => simp at hlen
            | cons v1 vs =>
              cases vs with
              | nil => simp at hlen
              | cons v2 vs =>
                cases vs with
                | cons v3 vs => simp at hlen
                | nil =>
                  exact PS.g (es_par2 h.calm h.nd (by rw [h.N]; exact n1) (by rw [h.N]; exact n2) hij l1 l2 (sEs b es c W X _ h g2) hsw (by rfl)) fun l => by rw [SW.evS]
          | cons l is =>
            cases is with
            | cons m is => simp at g4; omega
            | nil =>
              obtain ⟨x, px, y, py, z, pz, rfl, n1, n2, n3, hij, hik, hjk, l1, l2, l3⟩ := three g1
              cases vs with
              | nil => simp at hlen
              | cons v1 vs =>
                cases vs with
                | nil => simp at hlen
                | cons v2 vs =>
                  cases vs with
                  | nil => simp at hlen
                  | cons v3 vs =>
                    cases vs with
                    | cons v4 vs => simp at hlen
                    | nil =>
                      exact PS.g (es_par3 h.calm h.nd (by rw [h.N]; exact n1) (by rw [h.N]; exact n2) (by rw [h.N]; exact n3) hij hik hjk l1 l2 l3 (sEs b es c W X _ h g2) hsw (by rfl)) fun l => by rw [SW.evS]
    · cases g
  | .aug i o e, c, W, X, st, h, hp, g => by
    unfold chkS at g
    split at g
    · rename_i x px op v pos
      unfold locB opB at g
      simp only [Bool.and_eq_true, decide_eq_true_eq] at g
      obtain ⟨⟨⟨⟨g1, g1'⟩, g2⟩, rfl⟩, g4⟩ := g
      have hl : (X.env.scope.names.lookup x = some .local) ∨ (X.env.scope.names.lookup x = some .cell ∧ c.fn x = true) := by
        rw [h.sc]
        split at g1'
        · left; assumption
        · right; exact ⟨by assumption, g1'⟩
        · cases g1'
      exact PS.g (es_aug g2 h.nd (by rw [h.N]; exact g1) (hl.elim .inl fun z => .inr z.1) (hl.elim .inr fun z => .inl (h.fn x z.2)) (sE b e c W X v h g4)) fun l => by rw [SW.evS, SW.evE]; rfl
    · cases g
  | .setItem o i e, c, W, X, st, h, hp, g => by
    unfold chkS at g
    split at g
    · rename_i x y tp v pos
      simp only [Bool.and_eq_true] at g
      obtain ⟨⟨⟨g1, g2⟩, g3⟩, g4⟩ := g
      refine PS.g (es_setItem h.un (sE b e c W X v h g4) (sE b o c W X x h g2) (sE b i c W X y h g3) ?_ ?_ ?_) fun l => by rw [SW.evS]
      · intro w
        cases y <;> first | rfl | cases g1
      · show swapsWith v (some (.Subscript x y tp)) pos.line X.env = pure false
        cases v <;> rfl
      · cases v <;> rfl
    · cases g
  | .setTup o is e, c, W, X, st, h, hp, g => by
    unfold chkS at g
    split at g
    · rename_i x ys kt pt tp v pos
      simp only [Bool.and_eq_true] at g
      obtain ⟨⟨⟨g1, g2⟩, g3⟩, g4⟩ := g
      have hl := Nat.le_of_ble_eq_true g1
      refine PS.g (es_setTup h.un (sE b e c W X v h g4) (sE b o c W X x h g2) (sEs b is c W X ys h g3) (fun l μ vs ν e => by rw [evEs_len is l μ vs ν e]; omega) ?_ ?_ ?_) fun l => by rw [SW.evS]
      · intro w; rfl
      · show swapsWith v (some (.Subscript x (.Tuple ys kt pt) tp)) pos.line X.env = pure false
        cases v <;> rfl
      · cases v <;> rfl
    · cases g
  | .expr e, c, W, X, st, h, hp, g => by
    unfold chkS at g
    split at g
    · simp only [Bool.and_eq_true] at g
      exact PS.g (es_expr (sE b e c W X _ h g.2) (nocomp_sw g.1 _ _)) fun l => by rw [SW.evS]
    · cases g
  | .ret e, c, W, X, st, h, hp, g => by
    unfold chkS at g
    split at g
    · exact PS.g (es_ret (sE b e c W X _ h g)) fun l => by rw [SW.evS]
    · cases g
  | .ite t x y, c, W, X, st, h, hp, g => by
    unfold chkS at g
    split at g
    · simp only [Bool.and_eq_true] at g
      exact PS.g (es_if (sT b t c W X _ h g.1.1).1 (sB b x c W X _ h hp g.1.2) (sB b y c W X _ h hp g.2)) fun l => by rw [SW.evS]
    · cases g
  | .for p it body, c, W, X, st, h, hp, g => by
    unfold chkS at g
    split at g
    · simp only [Bool.and_eq_true] at g
      obtain ⟨⟨⟨g1, g2⟩, g3⟩, g4⟩ := g
      exact PS.g (es_for h.wok hp h.calm (sI b it c W X _ _ h g2) (sP h p _ g3) (sB b body c W X _ h hp g4) (SW.presB (SW.pres_callN T k) b body) (there_evI it) (noset_fold g1 _)) fun l => by rw [SW.evS] <;> rfl
    · cases g
  | .forK p i body, c, W, X, st, h, hp, g => by
    unfold chkS at g
    split at g
    · simp only [Bool.and_eq_true] at g
      obtain ⟨⟨g2, g3⟩, g4⟩ := g
      exact PS.g (es_forK h.wok hp h.calm (var_pe h g2) (sP h p _ g3) (sB b body c W X _ h hp g4) (SW.presB (SW.pres_callN T k) b body) fun _ => rfl) fun l => by rw [SW.evS] <;> rfl
    · cases g
  | .whl t body, c, W, X, st, h, hp, g => by
    unfold chkS at g
    split at g
    · simp only [Bool.and_eq_true] at g
      exact PS.g (es_while h.wok hp (sT b t c W X _ h g.1).1 (sB b body c W X _ h hp g.2) SW.whFuel) fun l => by rw [SW.evS]
    · cases g
  | .raise d, c, W, X, st, h, hp, g => by
    unfold chkS at g
    split at g
    · simp only [Bool.and_eq_true, decide_eq_true_eq] at g
      obtain ⟨a1, a2⟩ := glB_gl h g.2
      exact PS.g (es_raise h.calm h.tk h.xf g.1 a1 a2) fun l => by rw [SW.evS]
    · cases g
  | .bad, c, W, X, st, h, hp, g => PS.g es_never fun l => by rw [SW.evS]
  | .tryX n kk r body, c, W, X, st, h, hp, g => by
    unfold chkS at g
    split at g
    · rename_i bd x xp nm suite p1 p2
      simp only [Bool.and_eq_true] at g
      obtain ⟨⟨⟨g1, g2⟩, g3⟩, g4⟩ := g
      obtain ⟨hs, hf⟩ := h.tp g1
      obtain ⟨gx, dx⟩ := glB_gl h g2
      have un := h.room.un
      have dp : X.A.depth < recursionLimit := by have := h.room.dp; omega
      have hb : ∀ (W' : WX) (pn : List (Addr × Obj)) (xe : Value → Shared → Prop), WOk W' → Takes (X.tr pn xe) W' → PassesOwn (model X.prog X.w) X.A X.env xe → PSs (X.tr pn xe) bd (liftS X.K EC W' (SW.evB (SW.callN T k) b body)) :=
        fun W' pn xe wok tk ps => sB b body c W' (X.tr pn xe) bd (h.tr tk wok) ps g3
      unfold tryB at g4
      split at g4
      · split at g4
        · rename_i y z zp u up p3 p4
          simp only [Bool.and_eq_true, decide_eq_true_eq, Bool.not_eq_true'] at g4
          obtain ⟨⟨⟨⟨⟨⟨⟨⟨⟨⟨rfl, w2⟩, rfl⟩, w4⟩, w5⟩, w6⟩, rfl⟩, w8⟩, w9⟩, w10⟩, w11⟩ := g4
          have hk : kk = none := by cases kk <;> first | rfl | cases w4
          have hn : n = 16 := Nat.eq_of_beq_eq_true w5
          subst hk hn
          obtain ⟨e1, e2⟩ := h.wh w6
          have hl : X.env.scope.names.lookup u = some .local := by
            rw [h.sc]
            split at w9
            · assumption
            · cases w9
          have F := h.xf
          rw [e1] at F
          exact PS.g (es_tryW (i := c.N.idxOf u) hs hf h.nd (by rw [h.N]; exact w8) hl w10 w11 F gx e2 (glB_gl h w2).1 dp (by omega) h.tk h.wok hb) fun l => by rw [SW.evS]
        · cases g4
      · rename_i p
        simp only [Bool.and_eq_true, Bool.not_eq_true'] at g4
        obtain ⟨⟨⟨⟨⟨w1, w2⟩, w3⟩, w4⟩, w5⟩, w6⟩ := g4
        have hnm : nm = none := by cases nm <;> first | rfl | cases w2
        have hn : n = s.xn.length := Nat.eq_of_beq_eq_true w4
        subst hnm hn
        have ne : s.xn ≠ [] := by intro z; rw [z] at w5; cases w5
        split at w6
        · rename_i kq j1 j2 j3
          refine PS.g (es_tryC (r := p) w1 (k := kk) hs hf h.xf ne ?_ gx dx h.tk h.wok (fun Y => ?_) hb) fun l => by rw [SW.evS]
          · cases kk with
            | none => exact .inl ⟨rfl, of_decide_eq_true w3⟩
            | some d => exact .inr ⟨d, rfl, of_decide_eq_true w3⟩
          · cases p with
            | non => cases kq <;> first | exact pe_non | cases w6
            | bl q => cases kq <;> first | (obtain rfl := eq_of_beq w6; exact pe_bl) | cases w6
            | _ => cases w1
        · cases w6
    · cases g
theorem sB (b : Nat) : ∀ (as : List (S Fn)) (c : CC) (W : WX) (X : Cx) (sts : List Stmt), HX s T EC k c W X → PassesOwn (model X.prog X.w) X.A X.env X.xe → chkB s c as sts = true → PSs X sts (liftS X.K EC W (SW.evB (SW.callN T k) b as))
  | [], c, W, X, sts, h, hp, g => by
    cases sts <;> simp [chkB] at g
    exact PSs.g es_nil fun l => by rw [SW.evB]
  | a :: as, c, W, X, sts, h, hp, g => by
    cases sts with
    | nil => simp [chkB] at g
    | cons st sts =>
      simp only [chkB, Bool.and_eq_true] at g
      exact PSs.g (es_cons h.wok (sS b a c W X st h hp g.1) (sB b as c W X sts h hp g.2)) fun l => by rw [SW.evB] <;> rfl
end
end
end SWS
end
section
set_option maxRecDepth 100000
set_option maxHeartbeats 4000000
/-! The table's defs keep their promises; the law's end. -/
namespace SWS
open PySem PySem.Spec PyProof.Rows L2
open SW (PV Val MO Mem Res M FD Mode)
/-- the globals that the text leans on -/
structure GX {Fn : Type} (s : SE Fn) (EC : Nat → Value) (K : Fg) (mg : Str → Option Value) : Prop where
  bi : ∀ b, biOk b = true → mg (biName b) = none
  ty : ∀ t, mg (tyName t) = none
  mi : mg "isinstance" = none
  mr : mg "range" = none
  me : mg "enumerate" = none
  mz : mg "zip" = none
  ms : mg "set" = none
  cs : ∀ x p, s.cs x = some p → ∃ v u, mg x = some u ∧ RelV v u ∧ (∀ R, Rep K R p v) ∧ TupC K p v
  xf : XF K mg EC s.xn
  wh : s.wq = true → s.xn = xWhich ∧ ∀ (P : Program) (w : World) (base : Heap), WhAt P w K mg base EC
/-- the def's text is the table's -/
def defB {Fn : Type} (s : SE Fn) (t : FD Fn) (N ps : List Str) (body : List Stmt) (scope : Scope) : Bool :=
  C8.scC N ps scope && Nat.beq t.np ps.length && Nat.beq t.nl N.length && Nat.ble t.np t.nl && chkB s ⟨N, scope, fun _ => true, true⟩ t.body body
structure DX {Fn : Type} (s : SE Fn) (T : Fn → FD Fn) (K : Fg) (mg : Str → Option Value) (f : Fn) (a : Addr) (fd : FuncData) (N ps : List Str) (qual : Str) (params : Arguments) (body : List Stmt) (scope : Scope) : Prop where
  mg : mg (s.nm f) = some (.ref a)
  fn : FunD K (s.nm f) qual params body scope [] [] a fd
  bn : Binds K fd ps []
  ok : defB s (T f) N ps body scope = true
section
variable {Fn : Type} {s : SE Fn} {T : Fn → FD Fn} {EC : Nat → Value} {P : Program} {w : World} {K : Fg} {mg : Str → Option Value} {base : Heap}
theorem fnOk0 (f : Fn) (a : Addr) (fd : FuncData) (ps : List Str) : FnOk P w K mg base (CX P w) 0 a fd ps (spF T EC K 0 f) := by
  refine ⟨fun vs H Q E h => ?_, fun A outer st H args us vs Q E hr he hb hv h => ?_⟩
  · obtain ⟨m, b, F, R, ρ, μ, args, mr, r, P⟩ := h
    exact P.elim
  · obtain ⟨m, b, F, R, ρ, μ, args, mr, r, P⟩ := h
    exact P.elim
theorem DX.step (G : GX s EC K mg) {k : Nat} (A : ∀ f, FnAt P w K mg base EC T s.nm k f) {f : Fn} {a : Addr} {fd : FuncData} {N ps : List Str} {qual : Str} {params : Arguments} {body : List Stmt} {scope : Scope} (D : DX s T K mg f a fd N ps qual params body scope) :
    FnOk P w K mg base (CX P w) (k + 1) a fd ps (spF T EC K (k + 1) f) := by
  obtain ⟨oc, od, dV, kV, doc, pm, an, cdv, ct, osl, rfl, lk, hcd, _, _⟩ := D.fn.ex
  have h := D.ok
  unfold defB at h
  simp only [Bool.and_eq_true] at h
  obtain ⟨⟨⟨⟨h1, h2⟩, h3⟩, h4⟩, h5⟩ := h
  have S := C8.fnScope_by h1
  refine fn_lift lk hcd S (Nat.eq_of_beq_eq_true h2) (Nat.eq_of_beq_eq_true h3) (Nat.le_of_ble_eq_true h4) fun X W b eP ew eK em eb eN es hc hr hfn tk wok hp hst hfr => ?_
  subst eP ew eK em eb
  refine sB b _ ⟨N, scope, fun _ => true, true⟩ W X body ⟨eN, by rw [eN]; exact S.nd, es, S.kind, fun x _ => hfn x, hc, hr, G.bi, G.ty, G.mi, G.mr, G.me, G.mz, G.ms, G.cs, A, tk, wok, G.xf, fun z => ⟨(G.wh z).1, (G.wh z).2 _ _ _⟩, fun _ => ⟨hst, hfr⟩⟩ hp h5
/-- every def, at every depth -/
theorem tower (G : GX s EC K mg) (D : ∀ f, ∃ a fd N ps qual params body scope, DX s T K mg f a fd N ps qual params body scope) : ∀ (k : Nat) (f : Fn), FnAt P w K mg base EC T s.nm k f
  | 0, f => by
    obtain ⟨a, fd, N, ps, qual, params, body, scope, D⟩ := D f
    exact ⟨a, fd, ps, D.mg, D.fn.kp, D.bn, fnOk0 f a fd ps⟩
  | k + 1, f => by
    have A := tower G D k
    obtain ⟨a, fd, N, ps, qual, params, body, scope, D⟩ := D f
    exact ⟨a, fd, ps, D.mg, D.fn.kp, D.bn, D.step G A⟩
end
/-! ### the script's list stands outside the written part: no list stands there -/
theorem lookup_mem {α κ : Type} [BEq κ] [LawfulBEq κ] {x : κ} {p : α} : ∀ {l : List (κ × α)}, l.lookup x = some p → (x, p) ∈ l
  | [], h => by cases h
  | (y, q) :: l, h => by
    rw [List.lookup_cons] at h
    cases e : (x == y) with
    | true =>
      rw [e] at h
      cases h
      rw [eq_of_beq e]
      exact List.mem_cons_self
    | false =>
      rw [e] at h
      exact List.mem_cons_of_mem _ (lookup_mem h)
def isLst (o : Obj) : Bool := match o.cls with
  | .type c => decide (c = "list")
  | _ => false
def noL (K : Fg) : Fg := K.filter fun p => !isLst p.2
def MemIn (K : Fg) (h : Heap) : Prop := ∀ p ∈ K, h.get? p.1 = some p.2
theorem MemIn.keeps {K : Fg} {h h' : Heap} (X : MemIn K h) (k : ∀ b o, h.get? b = some o → h'.get? b = some o) : MemIn K h' := fun p hp => k _ _ (X p hp)
theorem noL_in {K : Fg} {h : Heap} (X : MemIn K h) : (noL K).In h := fun b o e => X (b, o) (List.mem_filter.mp (lookup_mem e)).1
theorem noL_none {K : Fg} {h : Heap} (X : MemIn K h) {a : Addr} {o : Obj} (ha : h.get? a = some o) (hl : isLst o = true) : (noL K).lookup a = none := by
  cases e : (noL K).lookup a with
  | none => rfl
  | some u =>
    have m := List.mem_filter.mp (lookup_mem e)
    have := X _ m.1
    rw [ha] at this
    cases this
    have m2 := m.2
    simp [hl] at m2
theorem frG_mem {g : Addr → Option Obj} {as : List Addr} {p : Addr × Obj} (h : p ∈ He.frG g as) : g p.1 = some p.2 := by
  unfold He.frG at h
  obtain ⟨a, _, e⟩ := List.mem_filterMap.mp h
  cases q : g a with
  | none => rw [q] at e; cases e
  | some o => rw [q] at e; cases e; exact q
/-! ### the end -/
theorem walk_sw {l : PySem.W.OpenLaw} {n k : Nat} {q : Program} {loose : List Str} {XP : (Str → Option Value) → Heap → Prop} {YP : World → Heap → Prop} {d : DefRec} {x : Str}
    (hn : l.most = some n) (hn2 : n ≤ sizeLine) (hdf : d.params.defaults = []) (hr : Room k callerA)
    (F : ∀ (w : World) (mg : Str → Option Value) (fa a : Addr) (h : Heap), YP w h → h.Ns mainGlobals mg → mg d.name = some (.ref fa) →
      ∃ (K : PySem.W.Frag) , MemIn K h ∧ ((noL K).lookup a = none → ∃ (fd : FuncData) (sp : Sp), (∀ (s : Shared) (u : Value), BindsTo s fd ⟨[u], []⟩ [(x, u)]) ∧
        (∀ (H : Hp) (ns : List Int), ns.length ≤ n → (∀ z ∈ ns, Builtin.Int.intBits z ≤ 1048576) → SqL (noL K) H a (ns.map V.int) → sp [.ref a] H (fun v _ => v = .bl true) fun _ _ _ => False) ∧
        ∀ base : Heap, (noL K).In base → base.Ns mainGlobals mg → FnOk l.prog w (noL K) mg base (CX l.prog w) k fa fd [x] sp)) :
    PySem.W.WalkO q loose XP YP l.row.toRowW d [] (fun f vs => PySem.call f vs) := by
  refine Att.attach_callB hn hdf fun w s₀ s₁ mg mb fa o pm cd doc a vs ns G Y ho hd hcd hmg hobj hints hlen hbits hg => ?_
  obtain ⟨K, KX, F⟩ := F w mg fa a _ Y G.T.g hmg
  obtain ⟨fd, sp, hb, hsp, hF⟩ := F (noL_none KX hobj rfl)
  exact law_call (noL_in KX) G.T.g G.T.b G.T.builtins G.T.nolimit hg hobj hints (Nat.le_trans hlen hn2) hr hF hb (fun H hO hS => hsp H ns hlen hbits hS) fun H e s' h => by
    obtain ⟨a, B, H', cls, d, _, _, _, _, _, _, _, h⟩ := h
    exact h
theorem reps_ints {K : Fg} {R : Hp} : ∀ ns : List Int, Reps K R (ns.map PV.int) (ns.map V.int)
  | [] => .nil
  | n :: ns => .cons (.int n) (reps_ints ns)
/-- the law's def answers True -/
theorem sp_law {Fn : Type} {T : Fn → FD Fn} {EC : Nat → Value} {K : Fg} {k : Nat} {f : Fn} {H : Hp} {a : Addr} {ns : List Int} (hK : K.lookup a = none) (hS : SqL K H a (ns.map V.int))
    (h : ∃ μ, SW.callN T k .raw 0 f [.v (.lst (ns.map PV.int))] [] = .ok (.v (.bl true)) μ) : spF T EC K k f [.ref a] H (fun v _ => v = .bl true) fun _ _ _ => False := by
  have hr : Rd H a (.lst (ns.map V.int)) := by
    rcases hS with h | ⟨o, its, n, lk, _⟩
    · exact h
    · rw [hK] at lk; cases lk
  obtain ⟨μ, h⟩ := h
  have m : MR (fun _ => none) K H [] [] H := ⟨(fun _ _ e => (nomatch e)), (fun _ _ e => (nomatch e)), Sub.refl H, rfl, List.nodup_nil, (fun _ e => (nomatch e)), (fun n o a e => by simp at e)⟩
  have r : VR K H [] (.v (.lst (ns.map PV.int))) (.ref a) := Rep.lst hr (reps_ints ns)
  refine ⟨.raw, 0, fun _ => none, H, [], [], _, m, .cons r .nil, ?_⟩
  rw [h]
  intro R' ρ' H' y s p m' ry
  cases ry
  rfl
end SWS
end
section
set_option maxRecDepth 100000
set_option maxHeartbeats 2000000
/-! The head's facts for a table of defs, with its constants. -/
namespace SWS
open PySem PySem.Spec PyProof.Rows L2
open SW (PV Val MO Mem Res M FD Mode)
def toDv : PV → He.Dv
  | .bl b => .bl b
  | .int i => .int i
  | .str s => .str (toS s)
  | _ => .non
def flatB : PV → Bool
  | .non => true
  | .bl _ => true
  | .int _ => true
  | .str _ => true
  | _ => false
theorem flat_rep {K K' : Fg} {R : Hp} {p : PV} (h : flatB p = true) : Rep K' R p ((toDv p).v K) := by
  cases p with
  | non => exact .non
  | bl b => exact .bl b
  | int i => exact .int i
  | str s => exact .str s
  | _ => cases h
theorem flat_reps {K K' : Fg} {R : Hp} : ∀ {ps : List PV}, ps.all flatB = true → Reps K' R ps ((ps.map toDv).map (He.Dv.v K))
  | [], _ => .nil
  | p :: ps, h => by
    rw [List.all_cons, Bool.and_eq_true] at h
    exact .cons (flat_rep h.1) (flat_reps h.2)
/-- a tuple without attributes -/
def bareB (K : Fg) (a : Addr) : Bool := match K.lookup a with
  | some ⟨.type c, none, _, _⟩ => decide (c = "tuple")
  | _ => false
theorem bareB_ok {K : Fg} {b : Addr} (h : bareB K b = true) : ∃ o, K.lookup b = some o ∧ o.cls = .type "tuple" ∧ o.dict = none := by
  unfold bareB at h
  split at h
  · rename_i c d sl lk
    have hc := of_decide_eq_true h
    subst hc
    exact ⟨⟨.type "tuple", none, d, sl⟩, lk, rfl, rfl⟩
  · cases h
/-- a constant of the top -/
def cOk (K : Fg) (q : Str × PV) : Bool := match q.2 with
  | .str s => (He.Fa.str q.1 (toS s)).ok K
  | .int i => (He.Fa.int q.1 i).ok K
  | .tup ps => (He.Fa.glo q.1).ok K && (He.tupB K q.1 (ps.map toDv) && ps.all flatB) && bareB K (He.ga K q.1)
  | _ => false
section
variable {K : Fg} {h : Heap} {mg : Str → Option Value}
theorem cOk_ok (X : K.In h) (G : h.Ns mainGlobals mg) {x : Str} {p : PV} (c : cOk K (x, p) = true) : ∃ v u, mg x = some u ∧ RelV v u ∧ (∀ R, Rep K R p v) ∧ TupC K p v := by
  cases p with
  | str s =>
    obtain ⟨t, e⟩ := He.str_ok X G (x := x) (z := toS s) c
    exact ⟨.str (toS s), _, e, ⟨t, rfl⟩, fun R => .str s, fun _ z => nomatch z⟩
  | int i =>
    obtain ⟨t, e⟩ := He.int_ok X G (x := x) (i := i) c
    exact ⟨.int i, _, e, ⟨t, rfl⟩, fun R => .int i, fun _ z => nomatch z⟩
  | tup ps =>
    obtain ⟨c, c4⟩ := Bool.and_eq_true_iff.mp c
    obtain ⟨c1, c⟩ := Bool.and_eq_true_iff.mp c
    obtain ⟨c2, c3⟩ := Bool.and_eq_true_iff.mp c
    obtain ⟨o, o1, o2, o3⟩ := bareB_ok c4
    exact ⟨.ref (He.ga K x), _, He.glo_ok X G c1, rfl, fun R => .tup (He.tupB_ok c2 R) (flat_reps c3), fun _ _ => ⟨_, o, rfl, o1, o2, o3⟩⟩
  | _ => cases c
end
/-! ### exception classes -/
def xOne (K : Fg) (x : Str) : Bool :=
  let C := He.ga K x
  (He.Fa.glo x).ok K && (PySem.W.excIn K C veB "ValueError.__new__" && (PySem.W.keepIn K (.ref C) && (decide (PySem.W.subIn K (.ref C) (.type "BaseException") = some true) && (decide (PySem.W.typeIn K (.ref C) = some (.type "type")) &&
    (decide (PySem.W.kitOne K (.ref C) (.type "ValueError") = some true) && (decide (PySem.W.findIn K (.ref C) "__getattribute__" = some (some (.builtin "BaseException.__getattribute__"))) && (decide (PySem.W.findIn K (.ref C) "__getattr__" = some none) &&
    (PySem.W.hasDictIn K C && (decide (PySem.W.findIn K (.ref C) "__class__" = some (some (.builtin "object.__class__"))) && (decide (PySem.W.specialIn K (.builtin "object.__class__") "__get__" = some (some (.builtin "getset_descriptor.__get__"))) &&
    (decide (PySem.W.takesIn K (.builtin "object.__class__") = some true) && decide (PySem.W.mroIn K C (.type "object") = some true))))))))))))
def ecOf (K : Fg) (xn : List Str) : Nat → Value := fun c => .ref (He.ga K (xn.getD c ""))
def xPair (K : Fg) (p q : Str × Nat) : Bool := decide (PySem.W.kitOne K (.ref (He.ga K p.1)) (.ref (He.ga K q.1)) = some (decide (p.2 = q.2))) && decide (PySem.W.exmOne K (.ref (He.ga K p.1)) (.ref (He.ga K q.1)) = some (decide (p.2 = q.2)))
def xAll (K : Fg) (xn : List Str) : Bool := xn.all (xOne K) && ((xn.zipIdx.all fun p => xn.zipIdx.all (xPair K p)) && (xn.isEmpty || ((He.Fa.glo "SiteError").ok K && ((He.Fa.free "ValueError").ok K && xn.all fun x => decide (PySem.W.exmOne K (.ref (He.ga K x)) (.ref (He.ga K "SiteError")) = some true)))))
section
variable {K : Fg} {h : Heap} {mg : Str → Option Value}
theorem xOne_ok (X : K.In h) (G : h.Ns mainGlobals mg) {x : Str} (c : xOne K x = true) : XC K mg (He.ga K x) x := by
  unfold xOne at c
  simp only [Bool.and_eq_true, decide_eq_true_eq] at c
  obtain ⟨c1, c2, c3, c4, c5, c6, c7, c8, c9, c10, c11, c12, c13⟩ := c
  exact ⟨He.glo_ok X G c1, c2, c3, c4, c5, ⟨c7, c8, c4, c9, c10, c11, c12, c13⟩, c6⟩
theorem xAll_ok (X : K.In h) (G : h.Ns mainGlobals mg) {xn : List Str} (c : xAll K xn = true) : XF K mg (ecOf K xn) xn := by
  unfold xAll at c
  simp only [Bool.and_eq_true, Bool.or_eq_true] at c
  obtain ⟨c1, c2, c3⟩ := c
  have ge : ∀ (c : Nat) (x : Str), xn[c]? = some x → ecOf K xn c = .ref (He.ga K x) := fun c x e => by
    unfold ecOf
    rw [List.getD_eq_getElem?_getD, e]; rfl
  have mem : ∀ (c : Nat) (x : Str), xn[c]? = some x → (x, c) ∈ xn.zipIdx := fun c x e => by
    rw [List.mem_zipIdx_iff_getElem?]; exact e
  have ne : xn ≠ [] → (xn.isEmpty = true) → False := fun h1 h2 => h1 (List.isEmpty_iff.mp h2)
  refine ⟨fun c x e => ⟨_, ge c x e, xOne_ok X G (List.all_eq_true.mp c1 x (List.mem_of_getElem? e))⟩, fun c d x y e1 e2 => ?_, fun h1 => ?_, fun h1 => ?_⟩
  · have := List.all_eq_true.mp (List.all_eq_true.mp c2 _ (mem c x e1)) _ (mem d y e2)
    unfold xPair at this
    simp only [Bool.and_eq_true, decide_eq_true_eq] at this
    rw [ge c x e1, ge d y e2]
    exact this
  · rcases c3 with c3 | c3
    · exact (ne h1 c3).elim
    · refine ⟨_, He.glo_ok X G c3.1, fun c x e => ?_⟩
      rw [ge c x e]
      exact of_decide_eq_true (List.all_eq_true.mp c3.2.2 x (List.mem_of_getElem? e))
  · rcases c3 with c3 | c3
    · exact (ne h1 c3).elim
    · exact He.free_ok X G c3.2.1
end
/-! ### the Hook -/
abbrev AlC : Type := He.AlD × Bool
def obsC (fa : List He.Fa) (fn : List He.DefD) (ct : List (Str × PV)) (xn : List Str) (K : Fg) : AlC :=
  let K' := noL K
  (He.obsD fa fn K', ct.all (cOk K') && xAll K' xn)
def valC (fn : List He.DefD) : AlC := (He.valD fn, true)
def SaysC (fa : List He.Fa) (fn : List He.DefD) (ct : List (Str × PV)) (xn : List Str) (K : Fg) : Prop := obsC fa fn ct xn K = valC fn
def obsCG (n : Nat) (fa : List He.Fa) (fn : List He.DefD) (ct : List (Str × PV)) (xn : List Str) (g : Addr → Option Obj) : AlC := obsC fa fn ct xn (He.frG g (He.asD g n))
def hookC (n : Nat) (fa : List He.Fa) (fn : List He.DefD) (ct : List (Str × PV)) (xn : List Str) : PySem.W.Hook where
  α := AlC
  obs := fun s => obsCG n fa fn ct xn s.heap.get?
  val := fun _ => valC fn
  says := fun _ h => ∃ K : Fg, MemIn K h ∧ SaysC fa fn ct xn K
  of := fun _ _ e => ⟨_, fun _ hp => frG_mem hp, e⟩
  keeps := fun _ _ _ ⟨K, hK, c⟩ k => ⟨K, hK.keeps k, c⟩
section
variable {fa : List He.Fa} {fn : List He.DefD} {ct : List (Str × PV)} {xn : List Str} {K : Fg}
theorem SaysC.d (c : SaysC fa fn ct xn K) : He.SaysD fa fn (noL K) := congrArg (fun z : AlC => z.1) c
theorem SaysC.cx (c : SaysC fa fn ct xn K) : (ct.all (cOk (noL K)) && xAll (noL K) xn) = true := congrArg (fun z : AlC => z.2) c
theorem SaysC.c (c : SaysC fa fn ct xn K) : ct.all (cOk (noL K)) = true := (Bool.and_eq_true_iff.mp c.cx).1
theorem SaysC.x (c : SaysC fa fn ct xn K) : xAll (noL K) xn = true := (Bool.and_eq_true_iff.mp c.cx).2
end
/-! ### a table of defs -/
/-- the built-in names of GX -/
def bNames : List Str := ["len", "max", "min", "sum", "all", "any", "tuple", "int", "str", "sorted", "list", "bool", "isinstance", "range", "enumerate", "zip", "set"]
theorem gx_of {Fn : Type} {s : SE Fn} {ct : List (Str × PV)} {K : Fg} {h : Heap} {mg : Str → Option Value} {EC : Nat → Value} (X : K.In h) (G : h.Ns mainGlobals mg) (hb : ∀ x ∈ bNames, (He.Fa.free x).ok K = true) (hc : ct.all (cOk K) = true) (hs : ∀ x, s.cs x = ct.lookup x) (hx : XF K mg EC s.xn)
    (hw : mg "isinstance" = none → s.wq = true → s.xn = xWhich ∧ ∀ (P : Program) (w : World) (base : Heap), WhAt P w K mg base EC) : GX s EC K mg := by
  have f : ∀ x ∈ bNames, mg x = none := fun x hx => He.free_ok X G (hb x hx)
  refine ⟨fun b hb => ?_, fun t => ?_, f _ (by simp [bNames]), f _ (by simp [bNames]), f _ (by simp [bNames]), f _ (by simp [bNames]), f _ (by simp [bNames]), fun x p e => ?_, hx, hw (f _ (by simp [bNames]))⟩
  · cases b <;> first | (cases hb; done) | exact f _ (by simp [bNames, biName])
  · cases t <;> exact f _ (by simp [bNames, tyName])
  · rw [hs] at e
    exact cOk_ok X G (List.all_eq_true.mp hc _ (lookup_mem e))
end SWS
end
section
set_option maxRecDepth 100000
namespace K
/-! The text of one linked program (printed by gen.py; chkB checks it). -/
inductive Fn where
  | d_is_whole | d_is_name | d_is_box | d_is_part | d_good_drawing | d_part_of | d_top_of | d_room_of | d_side_shared | d_ground_shared | d_clash | d_rests_of | d_holds | d_carried | d_part_wrong | d_wrong_of | d_is_sound | d_is_rate | d_good_book | d_is_told | d_needs_of | d_is_straight | d_good_job | d_need_job | d_rate_of | d_work_of | d_is_checked | d_names_of | d_is_row | d_days_done | d_need_log | d_months_of | d_done_in | d_paid | l_cell_at | l_mixed | l_draw | l_pick | l_which | l_ask | d_law
  deriving DecidableEq
open SW (S E Cn It OF Pat FD)
def b_d_is_whole : List (S Fn) :=
  [.ret (.and (.bi (.isI .int) [.var 0]) (.and (.not (.bi (.isI .bool) [.var 0])) (.cmp2 .le .le (.var 1) (.var 0) (.var 2))))]
def b_d_is_name : List (S Fn) :=
  [.ret (.and (.bi (.isI .str) [.var 0]) (.and (.cmp2 .le .le (.int 1) (.bi .len [.var 0]) (.int 6)) (.bi .all [.comp (.cmp .isin (.var 1) (.cst (.str [97, 98, 99, 100, 101, 102, 103, 104, 105, 106, 107, 108, 109, 110, 111, 112, 113, 114, 115, 116, 117, 118, 119, 120, 121, 122]))) (.v 1) (.seq (.var 0)) [] [1]])))]
def b_d_is_box : List (S Fn) :=
  [.ite (.or (.not (.e (.bi (.isI .tuple) [.var 0]))) (.or (.e (.cmp .ne (.bi .len [.var 0]) (.int 6))) (.not (.e (.bi .all [.comp (.call .val .d_is_whole [.var 1, .int 0, .int 9]) (.v 1) (.seq (.slc (.var 0) none (some (.int 3)))) [] [1]]))))) [.ret (.bl false)] [],
    .ret (.bi .all [.comp (.call .val .d_is_whole [.var 1, .int 1, .int 6]) (.v 1) (.seq (.slc (.var 0) (some (.int 3)) none)) [] [1]])]
def b_d_is_part : List (S Fn) :=
  [.ite (.or (.not (.e (.bi (.isI .tuple) [.var 0]))) (.or (.e (.cmp .ne (.bi .len [.var 0]) (.int 3))) (.not (.e (.call .val .d_is_name [.idx (.var 0) (.int 0)]))))) [.ret (.bl false)] [],
    .ret (.and (.bi (.isI .str) [.idx (.var 0) (.int 1)]) (.and (.cmp .isin (.idx (.var 0) (.int 1)) (.cst (.tup [.str [112, 97, 100], .str [112, 111, 115, 116], .str [119, 97, 108, 108], .str [115, 108, 97, 98], .str [114, 111, 111, 102]]))) (.call .val .d_is_box [.idx (.var 0) (.int 2)])))]
def b_d_good_drawing : List (S Fn) :=
  [.ite (.or (.not (.e (.bi (.isI .tuple) [.var 0]))) (.or (.not (.e (.cmp2 .le .le (.int 1) (.bi .len [.var 0]) (.cst (.int 10))))) (.not (.e (.bi .all [.comp (.call .val .d_is_part [.var 1]) (.v 1) (.seq (.var 0)) [] [1]]))))) [.ret (.bl false)] [],
    .ret (.cmp .eq (.lenSet (.idx (.var 1) (.int 0)) (.v 1) (.seq (.var 0)) [] [1]) (.bi .len [.var 0]))]
def b_d_part_of : List (S Fn) :=
  [.asg (.v 2) (.comp (.var 3) (.v 3) (.seq (.var 0)) [.and (.e (.bi (.isI .str) [.var 1])) (.e (.cmp .eq (.idx (.var 3) (.int 0)) (.var 1)))] [3]),
    .ite (.e (.cmp .eq (.var 2) (.lst []))) [.raise 1] [],
    .ret (.idx (.var 2) (.int 0))]
def b_d_top_of : List (S Fn) :=
  [.ret (.bin .add (.idx (.idx (.var 0) (.int 2)) (.int 2)) (.idx (.idx (.var 0) (.int 2)) (.int 5)))]
def b_d_room_of : List (S Fn) :=
  [.ret (.bin .mul (.bin .mul (.idx (.idx (.var 0) (.int 2)) (.int 3)) (.idx (.idx (.var 0) (.int 2)) (.int 4))) (.idx (.idx (.var 0) (.int 2)) (.int 5)))]
def b_d_side_shared : List (S Fn) :=
  [.ret (.bi .max2 [.int 0, .bin .sub (.bi .min2 [.bin .add (.var 0) (.var 1), .bin .add (.var 2) (.var 3)]) (.bi .max2 [.var 0, .var 2])])]
def b_d_ground_shared : List (S Fn) :=
  [.par [2, 3] [.idx (.var 0) (.int 2), .idx (.var 1) (.int 2)],
    .ret (.bin .mul (.call .val .d_side_shared [.idx (.var 2) (.int 0), .idx (.var 2) (.int 3), .idx (.var 3) (.int 0), .idx (.var 3) (.int 3)]) (.call .val .d_side_shared [.idx (.var 2) (.int 1), .idx (.var 2) (.int 4), .idx (.var 3) (.int 1), .idx (.var 3) (.int 4)]))]
def b_d_clash : List (S Fn) :=
  [.ret (.and (.cmp .gt (.call .val .d_ground_shared [.var 0, .var 1]) (.int 0)) (.cmp .gt (.call .val .d_side_shared [.idx (.idx (.var 0) (.int 2)) (.int 2), .idx (.idx (.var 0) (.int 2)) (.int 5), .idx (.idx (.var 1) (.int 2)) (.int 2), .idx (.idx (.var 1) (.int 2)) (.int 5)]) (.int 0)))]
def b_d_rests_of : List (S Fn) :=
  [.ret (.comp (.var 2) (.v 2) (.seq (.var 0)) [.and (.e (.cmp .eq (.call .val .d_top_of [.var 2]) (.idx (.idx (.var 1) (.int 2)) (.int 2)))) (.e (.cmp .gt (.call .val .d_ground_shared [.var 1, .var 2]) (.int 0)))] [2])]
def b_d_holds : List (S Fn) :=
  [.ret (.and (.cmp2 .le .lt (.idx (.idx (.var 0) (.int 2)) (.int 0)) (.var 1) (.bin .add (.idx (.idx (.var 0) (.int 2)) (.int 0)) (.idx (.idx (.var 0) (.int 2)) (.int 3)))) (.cmp2 .le .lt (.idx (.idx (.var 0) (.int 2)) (.int 1)) (.var 2) (.bin .add (.idx (.idx (.var 0) (.int 2)) (.int 1)) (.idx (.idx (.var 0) (.int 2)) (.int 4)))))]
def b_d_carried : List (S Fn) :=
  [.par [3, 4] [.call .val .d_rests_of [.var 0, .var 1], .int 0],
    .for (.v 2) (.range2 (.idx (.idx (.var 1) (.int 2)) (.int 0)) (.bin .add (.idx (.idx (.var 1) (.int 2)) (.int 0)) (.idx (.idx (.var 1) (.int 2)) (.int 3)))) [.for (.v 5) (.range2 (.idx (.idx (.var 1) (.int 2)) (.int 1)) (.bin .add (.idx (.idx (.var 1) (.int 2)) (.int 1)) (.idx (.idx (.var 1) (.int 2)) (.int 4)))) [.aug 4 .add (.bi .int [.bi .any [.comp (.call .val .d_holds [.var 6, .var 2, .var 5]) (.v 6) (.seq (.var 3)) [] [6]]])]],
    .ret (.var 4)]
def b_d_part_wrong : List (S Fn) :=
  [.par [2, 3] [.idx (.var 1) (.int 0), .own (.lst [])],
    .ite (.and (.e (.cmp .gt (.idx (.idx (.var 1) (.int 2)) (.int 2)) (.int 0))) (.e (.cmp .lt (.bin .mul (.int 2) (.call .val .d_carried [.var 0, .var 1])) (.bin .mul (.idx (.idx (.var 1) (.int 2)) (.int 3)) (.idx (.idx (.var 1) (.int 2)) (.int 4)))))) [.expr (.me .append (.var 3) [.tup [.str [104, 97, 110, 103, 115], .var 2]])] [],
    .ite (.e (.bi .any [.comp (.cmp .eq (.idx (.var 4) (.int 1)) (.str [114, 111, 111, 102])) (.v 4) (.seq (.call .val .d_rests_of [.var 0, .var 1])) [] [4]])) [.expr (.me .append (.var 3) [.tup [.str [114, 111, 111, 102], .var 2]])] [],
    .ite (.and (.e (.cmp .eq (.idx (.var 1) (.int 1)) (.str [112, 97, 100]))) (.e (.cmp .gt (.idx (.idx (.var 1) (.int 2)) (.int 2)) (.int 0)))) [.expr (.me .append (.var 3) [.tup [.str [112, 97, 100], .var 2]])] [],
    .ret (.var 3)]
def b_d_wrong_of : List (S Fn) :=
  [.asg (.v 1) (.own (.lst [])),
    .for (.t [.v 2, .v 3]) (.enum (.var 0)) [.expr (.me .extend (.var 1) [.call .val .d_part_wrong [.var 0, .var 3]]),
      .for (.v 4) (.seq (.slc (.var 0) (some (.bin .add (.var 2) (.int 1))) none)) [.ite (.e (.call .val .d_clash [.var 3, .var 4])) [.expr (.me .append (.var 1) [.bin .add (.tup [.str [99, 108, 97, 115, 104]]) (.bi .tuple [.bi .sorted [.lst [.idx (.var 3) (.int 0), .idx (.var 4) (.int 0)]]])])] []]],
    .ret (.bi .sorted [.var 1])]
def b_d_is_sound : List (S Fn) :=
  [.ret (.and (.call .val .d_good_drawing [.var 0]) (.cmp .eq (.call .val .d_wrong_of [.var 0]) (.lst [])))]
def b_d_is_rate : List (S Fn) :=
  [.ite (.or (.not (.e (.bi (.isI .tuple) [.var 0]))) (.e (.cmp .ne (.bi .len [.var 0]) (.int 4)))) [.ret (.bl false)] [],
    .ret (.bi .all [.comp (.call .val .d_is_whole [.var 1, .var 2, .var 3]) (.t [.v 1, .t [.v 2, .v 3]]) (.zip (.var 0) (.tup [.tup [.int 1, .int 4], .tup [.int 1, .int 20], .tup [.int 1, .int 99], .tup [.int 0, .int 1]])) [] [1, 2, 3]])]
def b_d_good_book : List (S Fn) :=
  [.ret (.and (.bi (.isI .tuple) [.var 0]) (.and (.cmp .eq (.bi .len [.var 0]) (.bi .len [.cst (.tup [.str [112, 97, 100], .str [112, 111, 115, 116], .str [119, 97, 108, 108], .str [115, 108, 97, 98], .str [114, 111, 111, 102]])])) (.bi .all [.comp (.call .val .d_is_rate [.var 1]) (.v 1) (.seq (.var 0)) [] [1]])))]
def b_d_is_told : List (S Fn) :=
  [.ite (.or (.not (.e (.bi (.isI .tuple) [.var 1]))) (.or (.e (.cmp .ne (.bi .len [.var 1]) (.int 2))) (.not (.e (.bi .all [.comp (.and (.call .val .d_is_name [.var 2]) (.cmp .isin (.var 2) (.var 0))) (.v 2) (.seq (.var 1)) [] [2]]))))) [.ret (.bl false)] [],
    .ret (.cmp .ne (.idx (.var 1) (.int 0)) (.idx (.var 1) (.int 1)))]
def b_d_needs_of : List (S Fn) :=
  [.asg (.v 2) (.comp (.idx (.var 3) (.int 0)) (.v 3) (.seq (.call .val .d_rests_of [.idx (.var 0) (.int 0), .call .val .d_part_of [.idx (.var 0) (.int 0), .var 1]])) [] [3]),
    .ret (.bi .sortedSet [.bin .add (.var 2) (.comp (.var 5) (.t [.v 4, .v 5]) (.seq (.idx (.var 0) (.int 2))) [.e (.cmp .eq (.var 4) (.var 1))] [4, 5])])]
def b_d_is_straight : List (S Fn) :=
  [.asg (.v 1) (.own (.dcomp (.idx (.var 4) (.int 0)) (.call .val .d_needs_of [.var 0, .idx (.var 4) (.int 0)]) (.v 4) (.seq (.idx (.var 0) (.int 0))) [] [4])),
    .asg (.v 2) (.bl true),
    .whl (.e (.var 2)) [.asg (.v 3) (.compK (.var 5) (.v 5) 1 [.not (.e (.bi .any [.comp (.cmp .isin (.var 6) (.var 1)) (.v 6) (.seq (.idx (.var 1) (.var 5))) [] [6]]))] [5]),
      .asg (.v 1) (.own (.dcompK (.var 5) (.idx (.var 1) (.var 5)) (.v 5) 1 [.e (.cmp .notin (.var 5) (.var 3))] [5])),
      .asg (.v 2) (.cmp .ne (.var 3) (.lst []))],
    .ret (.emp (.var 1))]
def b_d_good_job : List (S Fn) :=
  [.ite (.or (.not (.e (.bi (.isI .tuple) [.var 0]))) (.or (.e (.cmp .ne (.bi .len [.var 0]) (.int 3))) (.or (.not (.e (.call .val .d_is_sound [.idx (.var 0) (.int 0)]))) (.not (.e (.call .val .d_good_book [.idx (.var 0) (.int 1)])))))) [.ret (.bl false)] [],
    .ite (.or (.not (.e (.bi (.isI .tuple) [.idx (.var 0) (.int 2)]))) (.e (.cmp .gt (.bi .len [.idx (.var 0) (.int 2)]) (.cst (.int 10))))) [.ret (.bl false)] [],
    .asg (.v 1) (.comp (.idx (.var 2) (.int 0)) (.v 2) (.seq (.idx (.var 0) (.int 0))) [] [2]),
    .ret (.and (.bi .all [.comp (.call .val .d_is_told [.var 1, .var 3]) (.v 3) (.seq (.idx (.var 0) (.int 2))) [] [3]]) (.call .val .d_is_straight [.var 0]))]
def b_d_need_job : List (S Fn) :=
  [.ite (.not (.e (.call .val .d_good_job [.var 0]))) [.raise 3] []]
def b_d_rate_of : List (S Fn) :=
  [.ret (.idx (.idx (.var 0) (.int 1)) (.me .indexT (.cst (.tup [.str [112, 97, 100], .str [112, 111, 115, 116], .str [119, 97, 108, 108], .str [115, 108, 97, 98], .str [114, 111, 111, 102]])) [.idx (.var 1) (.int 1)]))]
def b_d_work_of : List (S Fn) :=
  [.asg (.t [.v 3, .v 4, .v 5, .v 6]) (.call .val .d_rate_of [.var 0, .var 1]),
    .asg (.v 2) (.call .val .d_room_of [.var 1]),
    .ret (.tup [.bin .fdiv (.bin .sub (.bin .add (.var 2) (.var 4)) (.int 1)) (.var 4), .var 3, .bi .int [.cmp .gt (.call .val .d_top_of [.var 1]) (.cst (.int 3))], .bin .mul (.var 2) (.var 5)])]
def b_d_is_checked : List (S Fn) :=
  [.ret (.idx (.call .val .d_rate_of [.var 0, .var 1]) (.int 3))]
def b_d_names_of : List (S Fn) :=
  [.ret (.comp (.idx (.var 1) (.int 0)) (.v 1) (.seq (.idx (.var 0) (.int 0))) [] [1])]
def b_d_is_row : List (S Fn) :=
  [.ite (.or (.not (.e (.bi (.isI .tuple) [.var 1]))) (.or (.e (.cmp .ne (.bi .len [.var 1]) (.int 3))) (.not (.e (.call .val .d_is_whole [.idx (.var 1) (.int 0), .int 0, .int 99999]))))) [.ret (.bl false)] [],
    .ret (.and (.bi (.isI .str) [.idx (.var 1) (.int 1)]) (.and (.cmp .isin (.idx (.var 1) (.int 1)) (.cst (.tup [.str [102, 97, 105, 108, 115], .str [112, 97, 115, 115, 101, 115], .str [98, 101, 103, 105, 110, 115], .str [101, 110, 100, 115]]))) (.and (.call .val .d_is_name [.idx (.var 1) (.int 2)]) (.cmp .isin (.idx (.var 1) (.int 2)) (.var 0)))))]
def b_d_days_done : List (S Fn) :=
  [.asg (.v 2) (.own (.lst [])),
    .for (.v 3) (.seq (.idx (.var 0) (.int 0))) [.asg (.v 4) (.ite (.e (.call .val .d_is_checked [.var 0, .var 3])) (.str [112, 97, 115, 115, 101, 115]) (.str [101, 110, 100, 115])),
      .asg (.v 5) (.comp (.var 6) (.t [.v 6, .v 7, .v 8]) (.seq (.var 1)) [.and (.e (.cmp .eq (.var 7) (.var 4))) (.e (.cmp .eq (.var 8) (.idx (.var 3) (.int 0))))] [6, 7, 8]),
      .expr (.me .append (.var 2) [.ite (.e (.cmp .ne (.var 5) (.lst []))) (.idx (.var 5) (.neg (.int 1))) .non])],
    .ret (.var 2)]
def b_d_need_log : List (S Fn) :=
  [.expr (.call .val .d_need_job [.var 0]),
    .ite (.or (.not (.e (.bi (.isI .list) [.var 1]))) (.or (.not (.e (.bi .all [.comp (.call .val .d_is_row [.call .val .d_names_of [.var 0], .var 2]) (.v 2) (.seq (.var 1)) [] [2]]))) (.e (.cmp .isin .non (.call .val .d_days_done [.var 0, .var 1]))))) [.raise 12] []]
def b_d_months_of : List (S Fn) :=
  [.ret (.bi .tuple [.comp (.bin .fdiv (.var 2) (.cst (.int 20))) (.v 2) (.seq (.call .val .d_days_done [.var 0, .var 1])) [] [2]])]
def b_d_done_in : List (S Fn) :=
  [.expr (.call .val .d_need_log [.var 0, .var 1]),
    .ret (.call .val .d_months_of [.var 0, .var 1])]
def b_d_paid : List (S Fn) :=
  [.expr (.call .val .d_need_log [.var 0, .var 1]),
    .par [3, 4, 5] [.call .val .d_months_of [.var 0, .var 1], .own (.lst []), .int 0],
    .for (.v 2) (.range2 (.bi .min1 [.var 3]) (.bin .add (.bi .max1 [.var 3]) (.int 1))) [.asg (.v 6) (.bi .sum [.comp (.idx (.call .val .d_work_of [.var 0, .var 8]) (.int 3)) (.t [.v 8, .v 9]) (.zip (.idx (.var 0) (.int 0)) (.var 3)) [.e (.cmp .eq (.var 9) (.var 2))] [8, 9]]),
      .aug 5 .add (.var 6),
      .asg (.v 7) (.ite (.e (.cmp .eq (.var 2) (.bi .max1 [.var 3]))) (.var 5) (.bin .fdiv (.bin .mul (.var 6) (.int 9)) (.int 10))),
      .aug 5 .sub (.var 7),
      .expr (.me .append (.var 4) [.tup [.var 2, .var 6, .var 7]])],
    .ret (.var 4)]
def b_l_cell_at : List (S Fn) :=
  [.ite (.e (.cmp .lt (.var 1) (.bi .len [.var 0]))) [.ret (.idx (.var 0) (.var 1))] [],
    .ite (.e (.cmp .eq (.var 0) (.lst []))) [.ret (.int 0)] [],
    .asg (.v 2) (.idx (.var 0) (.bin .mod (.var 1) (.bi .len [.var 0]))),
    .for (.v 3) (.range1 (.bi .min2 [.bin .fdiv (.var 1) (.bi .len [.var 0]), .int 60])) [.asg (.v 2) (.bin .fdiv (.var 2) (.int 1000003))],
    .ret (.bin .add (.bin .add (.bin .mul (.idx (.var 0) (.bin .mod (.var 1) (.bi .len [.var 0]))) (.int 31)) (.var 1)) (.bin .mul (.var 2) (.int 101)))]
def b_l_mixed : List (S Fn) :=
  [.asg (.v 3) (.bin .mod (.bin .add (.bin .add (.bin .mul (.call .val .l_cell_at [.var 0, .var 1]) (.int 1103515245)) (.bin .mul (.int 7919) (.var 1))) (.int 12345)) (.int 2147483647)),
    .ret (.bin .mod (.bin .mod (.bin .mod (.bin .pow (.var 3) (.int 5)) (.int 2147483647)) (.int 999983)) (.var 2))]
def b_l_draw : List (S Fn) :=
  [.expr (.me .append (.var 1) [.int 0]),
    .ret (.call .val .l_mixed [.var 0, .bi .len [.var 1], .var 2])]
def b_l_pick : List (S Fn) :=
  [.ret (.idx (.var 2) (.call .val .l_draw [.var 0, .var 1, .bi .len [.var 2]]))]
def b_l_which : List (S Fn) :=
  [.bad,
    .bad,
    .bad,
    .bad,
    .bad,
    .ret (.tup [.str [114, 101, 102, 117, 115, 101, 100], .me .index (.var 1) [.bl true]])]
def b_l_ask : List (S Fn) :=
  [.tryX 16 none none [.ret (.callL .val [.d_done_in, .d_paid] (.var 0) [.var 1, .var 2])]]
def b_d_law : List (S Fn) :=
  [.asg (.v 1) (.own (.lst [])),
    .asg (.v 2) (.tup [.tup [.str [97], .str [112, 97, 100], .tup [.int 0, .int 0, .int 0, .int 1, .int 1, .int 1]], .tup [.str [98], .str [112, 111, 115, 116], .tup [.int 2, .int 0, .int 0, .int 1, .int 1, .int 1]]]),
    .asg (.v 3) (.tup [.var 2, .bin .add (.tup [.tup [.int 1, .int 1, .int 10, .int 1], .tup [.int 1, .int 1, .int 7, .int 0]]) (.bin .mul (.tup [.tup [.int 1, .int 1, .int 1, .int 0]]) (.int 3)), .tup []]),
    .asg (.v 4) (.lst [.tup [.int 0, .str [98, 101, 103, 105, 110, 115], .str [97]], .tup [.int 0, .str [101, 110, 100, 115], .str [97]], .tup [.int 1, .str [112, 97, 115, 115, 101, 115], .str [97]], .tup [.int 2, .str [98, 101, 103, 105, 110, 115], .str [98]], .tup [.int 45, .str [101, 110, 100, 115], .str [98]]]),
    .asg (.v 5) (.own (.lst [.non, .int 5, .tup [], .bi .tuple [.var 4], .lst [], .slc (.var 4) none (some (.neg (.int 1))), .bin .add (.slc (.var 4) none (some (.int 2))) (.slc (.var 4) (some (.int 3)) none), .bin .add (.var 4) (.lst [.non]), .bin .add (.var 4) (.lst [.tup [.int 1, .str [101, 110, 100, 115]]])])),
    .expr (.me .append (.var 5) [.bin .add (.var 4) (.lst [.lst [.int 1, .str [101, 110, 100, 115], .str [97]]])]),
    .for (.t [.v 9, .v 10]) (.seq (.lst [.tup [.int 0, .neg (.int 1)], .tup [.int 0, .str [49]], .tup [.int 0, .bl true], .tup [.int 1, .str [115, 116, 111, 112, 115]], .tup [.int 1, .non], .tup [.int 2, .str [122]], .tup [.int 2, .non], .tup [.int 0, .non]])) [.asg (.v 11) (.bin .add (.bin .add (.slc (.idx (.var 4) (.int 3)) none (some (.var 9))) (.tup [.var 10])) (.slc (.idx (.var 4) (.int 3)) (some (.bin .add (.var 9) (.int 1))) none)),
      .expr (.me .append (.var 5) [.bin .add (.var 4) (.lst [.var 11])])],
    .asg (.v 6) (.call .val .l_pick [.var 0, .var 1, .var 5]),
    .ite (.e (.cmp .ne (.comp (.call .val .l_ask [.var 12, .var 3, .var 6]) (.v 12) (.range1 (.int 2)) [] [12]) (.bin .mul (.lst [.tup [.str [114, 101, 102, 117, 115, 101, 100], .int 12]]) (.int 2)))) [.ret (.bl false)] [],
    .ite (.or (.e (.cmp .ne (.call .val .l_ask [.int 0, .var 3, .var 4]) (.tup [.int 0, .int 2]))) (.e (.cmp .ne (.call .val .l_ask [.int 1, .var 3, .var 4]) (.lst [.tup [.int 0, .int 10, .int 9], .tup [.int 1, .int 0, .int 0], .tup [.int 2, .int 7, .int 8]])))) [.ret (.bl false)] [],
    .asg (.v 7) (.bin .add (.int 20) (.call .val .l_draw [.var 0, .var 1, .int 60])),
    .asg (.v 8) (.bin .add (.var 4) (.lst [.tup [.var 7, .str [102, 97, 105, 108, 115], .str [97]], .tup [.var 7, .str [101, 110, 100, 115], .str [97]], .tup [.bin .add (.var 7) (.int 1), .str [112, 97, 115, 115, 101, 115], .str [97]]])),
    .ret (.cmp .eq (.call .val .l_ask [.int 0, .var 3, .var 8]) (.tup [.bin .fdiv (.bin .add (.var 7) (.int 1)) (.int 20), .int 2]))]
def T : Fn → FD Fn
  | .d_is_whole => ⟨3, 3, b_d_is_whole⟩
  | .d_is_name => ⟨1, 2, b_d_is_name⟩
  | .d_is_box => ⟨1, 2, b_d_is_box⟩
  | .d_is_part => ⟨1, 1, b_d_is_part⟩
  | .d_good_drawing => ⟨1, 2, b_d_good_drawing⟩
  | .d_part_of => ⟨2, 4, b_d_part_of⟩
  | .d_top_of => ⟨1, 1, b_d_top_of⟩
  | .d_room_of => ⟨1, 1, b_d_room_of⟩
  | .d_side_shared => ⟨4, 4, b_d_side_shared⟩
  | .d_ground_shared => ⟨2, 4, b_d_ground_shared⟩
  | .d_clash => ⟨2, 2, b_d_clash⟩
  | .d_rests_of => ⟨2, 3, b_d_rests_of⟩
  | .d_holds => ⟨3, 3, b_d_holds⟩
  | .d_carried => ⟨2, 7, b_d_carried⟩
  | .d_part_wrong => ⟨2, 5, b_d_part_wrong⟩
  | .d_wrong_of => ⟨1, 5, b_d_wrong_of⟩
  | .d_is_sound => ⟨1, 1, b_d_is_sound⟩
  | .d_is_rate => ⟨1, 4, b_d_is_rate⟩
  | .d_good_book => ⟨1, 2, b_d_good_book⟩
  | .d_is_told => ⟨2, 3, b_d_is_told⟩
  | .d_needs_of => ⟨2, 6, b_d_needs_of⟩
  | .d_is_straight => ⟨1, 7, b_d_is_straight⟩
  | .d_good_job => ⟨1, 4, b_d_good_job⟩
  | .d_need_job => ⟨1, 1, b_d_need_job⟩
  | .d_rate_of => ⟨2, 2, b_d_rate_of⟩
  | .d_work_of => ⟨2, 7, b_d_work_of⟩
  | .d_is_checked => ⟨2, 2, b_d_is_checked⟩
  | .d_names_of => ⟨1, 2, b_d_names_of⟩
  | .d_is_row => ⟨2, 2, b_d_is_row⟩
  | .d_days_done => ⟨2, 9, b_d_days_done⟩
  | .d_need_log => ⟨2, 3, b_d_need_log⟩
  | .d_months_of => ⟨2, 3, b_d_months_of⟩
  | .d_done_in => ⟨2, 2, b_d_done_in⟩
  | .d_paid => ⟨2, 10, b_d_paid⟩
  | .l_cell_at => ⟨2, 4, b_l_cell_at⟩
  | .l_mixed => ⟨3, 4, b_l_mixed⟩
  | .l_draw => ⟨3, 3, b_l_draw⟩
  | .l_pick => ⟨3, 3, b_l_pick⟩
  | .l_which => ⟨1, 2, b_l_which⟩
  | .l_ask => ⟨3, 4, b_l_ask⟩
  | .d_law => ⟨1, 13, b_d_law⟩
end K
end
section
set_option maxRecDepth 100000
set_option maxHeartbeats 0
set_option Elab.async false
namespace K
def nm : Fn → PySem.Str
  | .d_is_whole => "is_whole"
  | .d_is_name => "is_name"
  | .d_is_box => "is_box"
  | .d_is_part => "is_part"
  | .d_good_drawing => "good_drawing"
  | .d_part_of => "part_of"
  | .d_top_of => "top_of"
  | .d_room_of => "room_of"
  | .d_side_shared => "side_shared"
  | .d_ground_shared => "ground_shared"
  | .d_clash => "clash"
  | .d_rests_of => "rests_of"
  | .d_holds => "holds"
  | .d_carried => "carried"
  | .d_part_wrong => "part_wrong"
  | .d_wrong_of => "wrong_of"
  | .d_is_sound => "is_sound"
  | .d_is_rate => "is_rate"
  | .d_good_book => "good_book"
  | .d_is_told => "is_told"
  | .d_needs_of => "needs_of"
  | .d_is_straight => "is_straight"
  | .d_good_job => "good_job"
  | .d_need_job => "need_job"
  | .d_rate_of => "rate_of"
  | .d_work_of => "work_of"
  | .d_is_checked => "is_checked"
  | .d_names_of => "names_of"
  | .d_is_row => "is_row"
  | .d_days_done => "days_done"
  | .d_need_log => "need_log"
  | .d_months_of => "months_of"
  | .d_done_in => "done_in"
  | .d_paid => "paid"
  | .l_cell_at => "_law_cell_at"
  | .l_mixed => "_law_mixed"
  | .l_draw => "_law_draw"
  | .l_pick => "_law_pick"
  | .l_which => "_law_which"
  | .l_ask => "_law_ask"
  | .d_law => "law"
def NN : Fn → List PySem.Str
  | .d_is_whole => ["thing", "low", "high"]
  | .d_is_name => ["thing", "sign"]
  | .d_is_box => ["thing", "one"]
  | .d_is_part => ["thing"]
  | .d_good_drawing => ["thing", "part"]
  | .d_part_of => ["drawing", "name", "found", "part"]
  | .d_top_of => ["part"]
  | .d_room_of => ["part"]
  | .d_side_shared => ["low", "long", "other", "more"]
  | .d_ground_shared => ["one", "other", "a", "b"]
  | .d_clash => ["one", "other"]
  | .d_rests_of => ["drawing", "part", "other"]
  | .d_holds => ["part", "x", "y"]
  | .d_carried => ["drawing", "part", "x", "below", "many", "y", "other"]
  | .d_part_wrong => ["drawing", "part", "name", "made", "other"]
  | .d_wrong_of => ["drawing", "made", "at", "part", "other"]
  | .d_is_sound => ["thing"]
  | .d_is_rate => ["thing", "one", "low", "high"]
  | .d_good_book => ["thing", "one"]
  | .d_is_told => ["names", "thing", "one"]
  | .d_needs_of => ["job", "name", "made", "part", "one", "other"]
  | .d_is_straight => ["job", "left", "more", "free", "part", "name", "other"]
  | .d_good_job => ["thing", "names", "part", "one"]
  | .d_need_job => ["job"]
  | .d_rate_of => ["job", "part"]
  | .d_work_of => ["job", "part", "room", "hands", "pace", "price", "checked"]
  | .d_is_checked => ["job", "part"]
  | .d_names_of => ["job", "part"]
  | .d_is_row => ["names", "thing"]
  | .d_days_done => ["job", "log", "made", "part", "word", "days", "day", "one", "name"]
  | .d_need_log => ["job", "log", "one"]
  | .d_months_of => ["job", "log", "day"]
  | .d_done_in => ["job", "log"]
  | .d_paid => ["job", "log", "month", "months", "made", "due", "done", "now", "part", "own"]
  | .l_cell_at => ["_law_script", "_law_k", "_law_spare", "_law_again"]
  | .l_mixed => ["_law_script", "_law_k", "_law_bound", "_law_spun"]
  | .l_draw => ["_law_script", "_law_town", "_law_bound"]
  | .l_pick => ["_law_script", "_law_town", "_law_some"]
  | .l_which => ["_law_e", "_law_own"]
  | .l_ask => ["_law_what", "_law_job", "_law_log", "_law_e"]
  | .d_law => ["_law_script", "_law_town", "_law_pads", "_law_job", "_law_good", "_law_some", "_law_bad", "_law_day", "_law_later", "_law_at", "_law_off", "_law_odd", "_law_what"]
def np : Fn → Nat
  | .d_is_whole => 3
  | .d_is_name => 1
  | .d_is_box => 1
  | .d_is_part => 1
  | .d_good_drawing => 1
  | .d_part_of => 2
  | .d_top_of => 1
  | .d_room_of => 1
  | .d_side_shared => 4
  | .d_ground_shared => 2
  | .d_clash => 2
  | .d_rests_of => 2
  | .d_holds => 3
  | .d_carried => 2
  | .d_part_wrong => 2
  | .d_wrong_of => 1
  | .d_is_sound => 1
  | .d_is_rate => 1
  | .d_good_book => 1
  | .d_is_told => 2
  | .d_needs_of => 2
  | .d_is_straight => 1
  | .d_good_job => 1
  | .d_need_job => 1
  | .d_rate_of => 2
  | .d_work_of => 2
  | .d_is_checked => 2
  | .d_names_of => 1
  | .d_is_row => 2
  | .d_days_done => 2
  | .d_need_log => 2
  | .d_months_of => 2
  | .d_done_in => 2
  | .d_paid => 2
  | .l_cell_at => 2
  | .l_mixed => 3
  | .l_draw => 3
  | .l_pick => 3
  | .l_which => 1
  | .l_ask => 3
  | .d_law => 1
def at_ : Fn → Nat
  | .d_is_whole => 22
  | .d_is_name => 23
  | .d_is_box => 24
  | .d_is_part => 25
  | .d_good_drawing => 26
  | .d_part_of => 27
  | .d_top_of => 28
  | .d_room_of => 29
  | .d_side_shared => 30
  | .d_ground_shared => 31
  | .d_clash => 32
  | .d_rests_of => 33
  | .d_holds => 34
  | .d_carried => 35
  | .d_part_wrong => 36
  | .d_wrong_of => 37
  | .d_is_sound => 38
  | .d_is_rate => 42
  | .d_good_book => 43
  | .d_is_told => 44
  | .d_needs_of => 45
  | .d_is_straight => 46
  | .d_good_job => 47
  | .d_need_job => 48
  | .d_rate_of => 49
  | .d_work_of => 50
  | .d_is_checked => 51
  | .d_names_of => 52
  | .d_is_row => 56
  | .d_days_done => 57
  | .d_need_log => 58
  | .d_months_of => 59
  | .d_done_in => 60
  | .d_paid => 61
  | .l_cell_at => 63
  | .l_mixed => 64
  | .l_draw => 65
  | .l_pick => 66
  | .l_which => 67
  | .l_ask => 68
  | .d_law => 69
def ix : Fn → Nat
  | .d_is_whole => 0
  | .d_is_name => 1
  | .d_is_box => 2
  | .d_is_part => 3
  | .d_good_drawing => 4
  | .d_part_of => 5
  | .d_top_of => 6
  | .d_room_of => 7
  | .d_side_shared => 8
  | .d_ground_shared => 9
  | .d_clash => 10
  | .d_rests_of => 11
  | .d_holds => 12
  | .d_carried => 13
  | .d_part_wrong => 14
  | .d_wrong_of => 15
  | .d_is_sound => 16
  | .d_is_rate => 17
  | .d_good_book => 18
  | .d_is_told => 19
  | .d_needs_of => 20
  | .d_is_straight => 21
  | .d_good_job => 22
  | .d_need_job => 23
  | .d_rate_of => 24
  | .d_work_of => 25
  | .d_is_checked => 26
  | .d_names_of => 27
  | .d_is_row => 28
  | .d_days_done => 29
  | .d_need_log => 30
  | .d_months_of => 31
  | .d_done_in => 32
  | .d_paid => 33
  | .l_cell_at => 34
  | .l_mixed => 35
  | .l_draw => 36
  | .l_pick => 37
  | .l_which => 38
  | .l_ask => 39
  | .d_law => 40
def all : List Fn := [.d_is_whole, .d_is_name, .d_is_box, .d_is_part, .d_good_drawing, .d_part_of, .d_top_of, .d_room_of, .d_side_shared, .d_ground_shared, .d_clash, .d_rests_of, .d_holds, .d_carried, .d_part_wrong, .d_wrong_of, .d_is_sound, .d_is_rate, .d_good_book, .d_is_told, .d_needs_of, .d_is_straight, .d_good_job, .d_need_job, .d_rate_of, .d_work_of, .d_is_checked, .d_names_of, .d_is_row, .d_days_done, .d_need_log, .d_months_of, .d_done_in, .d_paid, .l_cell_at, .l_mixed, .l_draw, .l_pick, .l_which, .l_ask, .d_law]
def cStr : List (PySem.Str × List Nat) := [("LETTERS", [97, 98, 99, 100, 101, 102, 103, 104, 105, 106, 107, 108, 109, 110, 111, 112, 113, 114, 115, 116, 117, 118, 119, 120, 121, 122])]
def cInt : List (PySem.Str × Int) := [("MOST", 10), ("HIGH", 3), ("ORDERS", 10), ("MONTH", 20)]
def cTup : List (PySem.Str × List (List Nat ⊕ Int)) := [("KINDS", [.inl [112, 97, 100], .inl [112, 111, 115, 116], .inl [119, 97, 108, 108], .inl [115, 108, 97, 98], .inl [114, 111, 111, 102]]), ("WORDS", [.inl [102, 97, 105, 108, 115], .inl [112, 97, 115, 115, 101, 115], .inl [98, 101, 103, 105, 110, 115], .inl [101, 110, 100, 115]])]
def lawAt : Nat := 69
def loose0 : List PySem.Str := ["SiteError", "NoDrawing", "NoPart", "NoBook", "NoJob", "NoSite", "NoPlan", "NoStarts", "NoOrder", "TooMany", "NoEvents", "NoChange", "NotStanding", "NoLog", "NoText", "Busy", "Nothing", "LETTERS", "KINDS", "MOST"]
def loose1 : List PySem.Str := ["is_whole", "is_name", "is_box", "is_part", "good_drawing", "part_of", "top_of", "room_of", "side_shared", "ground_shared", "clash", "rests_of", "holds", "carried", "part_wrong", "wrong_of", "is_sound", "HIGH", "ORDERS", "is_rate"]
def loose2 : List PySem.Str := ["good_book", "is_told", "needs_of", "is_straight", "good_job", "need_job", "rate_of", "work_of", "is_checked", "names_of", "MONTH", "WORDS", "is_row", "days_done", "need_log", "months_of", "done_in", "paid", "_law_cell_at", "_law_mixed"]
def loose3 : List PySem.Str := ["_law_draw", "_law_pick", "_law_which", "_law_ask"]
def loose : List PySem.Str := loose0 ++ loose1 ++ loose2 ++ loose3
def ct : List (PySem.Str × SW.PV) := [("LETTERS", .str [97, 98, 99, 100, 101, 102, 103, 104, 105, 106, 107, 108, 109, 110, 111, 112, 113, 114, 115, 116, 117, 118, 119, 120, 121, 122]), ("KINDS", .tup [.str [112, 97, 100], .str [112, 111, 115, 116], .str [119, 97, 108, 108], .str [115, 108, 97, 98], .str [114, 111, 111, 102]]), ("MOST", .int 10), ("HIGH", .int 3), ("ORDERS", .int 10), ("MONTH", .int 20), ("WORDS", .tup [.str [102, 97, 105, 108, 115], .str [112, 97, 115, 115, 101, 115], .str [98, 101, 103, 105, 110, 115], .str [101, 110, 100, 115]])]
abbrev xn : List PySem.Str := SWS.xWhich
open PySem PySem.Spec PyProof.Rows L2 SWS
abbrev RR : PySem.W.OpenRow := PySem.W.OpenLaw.row PySem.Challenge.rw_siteworks_k19_logs_refused
def stm (f : Fn) : Stmt := PySem.Challenge.pw_siteworks_k19_logs_refused.main.body.getD (at_ f) (.Pass ⟨0, 0, 0, 0⟩)
def pp (f : Fn) : List PySem.Str := (NN f).take (np f)
def se : SE Fn := ⟨nm, fun x => ct.lookup x, xn, true⟩
def dd (f : Fn) : He.DefD := ⟨(nm f, none), nm f, nm f, defArgs (stm f), defBody (stm f), defScope (stm f), [], []⟩
def ok (f : Fn) : Bool := defB se (T f) (NN f) (pp f) (defBody (stm f)) (defScope (stm f))
theorem chk : all.all ok = true := by kernel_rfl
theorem mem_all (f : Fn) : f ∈ all := by cases f <;> decide
def dfs : List He.DefD := all.map dd
theorem dfs_at (f : Fn) : dfs[ix f]? = some (dd f) := by cases f <;> rfl
def fas : List He.Fa := all.map (fun f => .glo (nm f)) ++ bNames.map .free
theorem fas_at (f : Fn) : fas[ix f]? = some (.glo (nm f)) := by cases f <;> rfl
theorem bn_d_is_whole {K : Fg} {fd : FuncData} {f : Addr} (F : FunD K "is_whole" "is_whole" (defArgs (stm .d_is_whole)) (defBody (stm .d_is_whole)) (defScope (stm .d_is_whole)) [] [] f fd) : Binds K fd (pp .d_is_whole) [] :=
  F.bindsN fun _ _ _ _ _ _ us hl => match us, hl with | [_, _, _], _ => rfl
theorem bn_d_is_name {K : Fg} {fd : FuncData} {f : Addr} (F : FunD K "is_name" "is_name" (defArgs (stm .d_is_name)) (defBody (stm .d_is_name)) (defScope (stm .d_is_name)) [] [] f fd) : Binds K fd (pp .d_is_name) [] :=
  F.bindsN fun _ _ _ _ _ _ us hl => match us, hl with | [_], _ => rfl
theorem bn_d_is_box {K : Fg} {fd : FuncData} {f : Addr} (F : FunD K "is_box" "is_box" (defArgs (stm .d_is_box)) (defBody (stm .d_is_box)) (defScope (stm .d_is_box)) [] [] f fd) : Binds K fd (pp .d_is_box) [] :=
  F.bindsN fun _ _ _ _ _ _ us hl => match us, hl with | [_], _ => rfl
theorem bn_d_is_part {K : Fg} {fd : FuncData} {f : Addr} (F : FunD K "is_part" "is_part" (defArgs (stm .d_is_part)) (defBody (stm .d_is_part)) (defScope (stm .d_is_part)) [] [] f fd) : Binds K fd (pp .d_is_part) [] :=
  F.bindsN fun _ _ _ _ _ _ us hl => match us, hl with | [_], _ => rfl
theorem bn_d_good_drawing {K : Fg} {fd : FuncData} {f : Addr} (F : FunD K "good_drawing" "good_drawing" (defArgs (stm .d_good_drawing)) (defBody (stm .d_good_drawing)) (defScope (stm .d_good_drawing)) [] [] f fd) : Binds K fd (pp .d_good_drawing) [] :=
  F.bindsN fun _ _ _ _ _ _ us hl => match us, hl with | [_], _ => rfl
theorem bn_d_part_of {K : Fg} {fd : FuncData} {f : Addr} (F : FunD K "part_of" "part_of" (defArgs (stm .d_part_of)) (defBody (stm .d_part_of)) (defScope (stm .d_part_of)) [] [] f fd) : Binds K fd (pp .d_part_of) [] :=
  F.bindsN fun _ _ _ _ _ _ us hl => match us, hl with | [_, _], _ => rfl
theorem bn_d_top_of {K : Fg} {fd : FuncData} {f : Addr} (F : FunD K "top_of" "top_of" (defArgs (stm .d_top_of)) (defBody (stm .d_top_of)) (defScope (stm .d_top_of)) [] [] f fd) : Binds K fd (pp .d_top_of) [] :=
  F.bindsN fun _ _ _ _ _ _ us hl => match us, hl with | [_], _ => rfl
theorem bn_d_room_of {K : Fg} {fd : FuncData} {f : Addr} (F : FunD K "room_of" "room_of" (defArgs (stm .d_room_of)) (defBody (stm .d_room_of)) (defScope (stm .d_room_of)) [] [] f fd) : Binds K fd (pp .d_room_of) [] :=
  F.bindsN fun _ _ _ _ _ _ us hl => match us, hl with | [_], _ => rfl
theorem bn_d_side_shared {K : Fg} {fd : FuncData} {f : Addr} (F : FunD K "side_shared" "side_shared" (defArgs (stm .d_side_shared)) (defBody (stm .d_side_shared)) (defScope (stm .d_side_shared)) [] [] f fd) : Binds K fd (pp .d_side_shared) [] :=
  F.bindsN fun _ _ _ _ _ _ us hl => match us, hl with | [_, _, _, _], _ => rfl
theorem bn_d_ground_shared {K : Fg} {fd : FuncData} {f : Addr} (F : FunD K "ground_shared" "ground_shared" (defArgs (stm .d_ground_shared)) (defBody (stm .d_ground_shared)) (defScope (stm .d_ground_shared)) [] [] f fd) : Binds K fd (pp .d_ground_shared) [] :=
  F.bindsN fun _ _ _ _ _ _ us hl => match us, hl with | [_, _], _ => rfl
theorem bn_d_clash {K : Fg} {fd : FuncData} {f : Addr} (F : FunD K "clash" "clash" (defArgs (stm .d_clash)) (defBody (stm .d_clash)) (defScope (stm .d_clash)) [] [] f fd) : Binds K fd (pp .d_clash) [] :=
  F.bindsN fun _ _ _ _ _ _ us hl => match us, hl with | [_, _], _ => rfl
theorem bn_d_rests_of {K : Fg} {fd : FuncData} {f : Addr} (F : FunD K "rests_of" "rests_of" (defArgs (stm .d_rests_of)) (defBody (stm .d_rests_of)) (defScope (stm .d_rests_of)) [] [] f fd) : Binds K fd (pp .d_rests_of) [] :=
  F.bindsN fun _ _ _ _ _ _ us hl => match us, hl with | [_, _], _ => rfl
theorem bn_d_holds {K : Fg} {fd : FuncData} {f : Addr} (F : FunD K "holds" "holds" (defArgs (stm .d_holds)) (defBody (stm .d_holds)) (defScope (stm .d_holds)) [] [] f fd) : Binds K fd (pp .d_holds) [] :=
  F.bindsN fun _ _ _ _ _ _ us hl => match us, hl with | [_, _, _], _ => rfl
theorem bn_d_carried {K : Fg} {fd : FuncData} {f : Addr} (F : FunD K "carried" "carried" (defArgs (stm .d_carried)) (defBody (stm .d_carried)) (defScope (stm .d_carried)) [] [] f fd) : Binds K fd (pp .d_carried) [] :=
  F.bindsN fun _ _ _ _ _ _ us hl => match us, hl with | [_, _], _ => rfl
theorem bn_d_part_wrong {K : Fg} {fd : FuncData} {f : Addr} (F : FunD K "part_wrong" "part_wrong" (defArgs (stm .d_part_wrong)) (defBody (stm .d_part_wrong)) (defScope (stm .d_part_wrong)) [] [] f fd) : Binds K fd (pp .d_part_wrong) [] :=
  F.bindsN fun _ _ _ _ _ _ us hl => match us, hl with | [_, _], _ => rfl
theorem bn_d_wrong_of {K : Fg} {fd : FuncData} {f : Addr} (F : FunD K "wrong_of" "wrong_of" (defArgs (stm .d_wrong_of)) (defBody (stm .d_wrong_of)) (defScope (stm .d_wrong_of)) [] [] f fd) : Binds K fd (pp .d_wrong_of) [] :=
  F.bindsN fun _ _ _ _ _ _ us hl => match us, hl with | [_], _ => rfl
theorem bn_d_is_sound {K : Fg} {fd : FuncData} {f : Addr} (F : FunD K "is_sound" "is_sound" (defArgs (stm .d_is_sound)) (defBody (stm .d_is_sound)) (defScope (stm .d_is_sound)) [] [] f fd) : Binds K fd (pp .d_is_sound) [] :=
  F.bindsN fun _ _ _ _ _ _ us hl => match us, hl with | [_], _ => rfl
theorem bn_d_is_rate {K : Fg} {fd : FuncData} {f : Addr} (F : FunD K "is_rate" "is_rate" (defArgs (stm .d_is_rate)) (defBody (stm .d_is_rate)) (defScope (stm .d_is_rate)) [] [] f fd) : Binds K fd (pp .d_is_rate) [] :=
  F.bindsN fun _ _ _ _ _ _ us hl => match us, hl with | [_], _ => rfl
theorem bn_d_good_book {K : Fg} {fd : FuncData} {f : Addr} (F : FunD K "good_book" "good_book" (defArgs (stm .d_good_book)) (defBody (stm .d_good_book)) (defScope (stm .d_good_book)) [] [] f fd) : Binds K fd (pp .d_good_book) [] :=
  F.bindsN fun _ _ _ _ _ _ us hl => match us, hl with | [_], _ => rfl
theorem bn_d_is_told {K : Fg} {fd : FuncData} {f : Addr} (F : FunD K "is_told" "is_told" (defArgs (stm .d_is_told)) (defBody (stm .d_is_told)) (defScope (stm .d_is_told)) [] [] f fd) : Binds K fd (pp .d_is_told) [] :=
  F.bindsN fun _ _ _ _ _ _ us hl => match us, hl with | [_, _], _ => rfl
theorem bn_d_needs_of {K : Fg} {fd : FuncData} {f : Addr} (F : FunD K "needs_of" "needs_of" (defArgs (stm .d_needs_of)) (defBody (stm .d_needs_of)) (defScope (stm .d_needs_of)) [] [] f fd) : Binds K fd (pp .d_needs_of) [] :=
  F.bindsN fun _ _ _ _ _ _ us hl => match us, hl with | [_, _], _ => rfl
theorem bn_d_is_straight {K : Fg} {fd : FuncData} {f : Addr} (F : FunD K "is_straight" "is_straight" (defArgs (stm .d_is_straight)) (defBody (stm .d_is_straight)) (defScope (stm .d_is_straight)) [] [] f fd) : Binds K fd (pp .d_is_straight) [] :=
  F.bindsN fun _ _ _ _ _ _ us hl => match us, hl with | [_], _ => rfl
theorem bn_d_good_job {K : Fg} {fd : FuncData} {f : Addr} (F : FunD K "good_job" "good_job" (defArgs (stm .d_good_job)) (defBody (stm .d_good_job)) (defScope (stm .d_good_job)) [] [] f fd) : Binds K fd (pp .d_good_job) [] :=
  F.bindsN fun _ _ _ _ _ _ us hl => match us, hl with | [_], _ => rfl
theorem bn_d_need_job {K : Fg} {fd : FuncData} {f : Addr} (F : FunD K "need_job" "need_job" (defArgs (stm .d_need_job)) (defBody (stm .d_need_job)) (defScope (stm .d_need_job)) [] [] f fd) : Binds K fd (pp .d_need_job) [] :=
  F.bindsN fun _ _ _ _ _ _ us hl => match us, hl with | [_], _ => rfl
theorem bn_d_rate_of {K : Fg} {fd : FuncData} {f : Addr} (F : FunD K "rate_of" "rate_of" (defArgs (stm .d_rate_of)) (defBody (stm .d_rate_of)) (defScope (stm .d_rate_of)) [] [] f fd) : Binds K fd (pp .d_rate_of) [] :=
  F.bindsN fun _ _ _ _ _ _ us hl => match us, hl with | [_, _], _ => rfl
theorem bn_d_work_of {K : Fg} {fd : FuncData} {f : Addr} (F : FunD K "work_of" "work_of" (defArgs (stm .d_work_of)) (defBody (stm .d_work_of)) (defScope (stm .d_work_of)) [] [] f fd) : Binds K fd (pp .d_work_of) [] :=
  F.bindsN fun _ _ _ _ _ _ us hl => match us, hl with | [_, _], _ => rfl
theorem bn_d_is_checked {K : Fg} {fd : FuncData} {f : Addr} (F : FunD K "is_checked" "is_checked" (defArgs (stm .d_is_checked)) (defBody (stm .d_is_checked)) (defScope (stm .d_is_checked)) [] [] f fd) : Binds K fd (pp .d_is_checked) [] :=
  F.bindsN fun _ _ _ _ _ _ us hl => match us, hl with | [_, _], _ => rfl
theorem bn_d_names_of {K : Fg} {fd : FuncData} {f : Addr} (F : FunD K "names_of" "names_of" (defArgs (stm .d_names_of)) (defBody (stm .d_names_of)) (defScope (stm .d_names_of)) [] [] f fd) : Binds K fd (pp .d_names_of) [] :=
  F.bindsN fun _ _ _ _ _ _ us hl => match us, hl with | [_], _ => rfl
theorem bn_d_is_row {K : Fg} {fd : FuncData} {f : Addr} (F : FunD K "is_row" "is_row" (defArgs (stm .d_is_row)) (defBody (stm .d_is_row)) (defScope (stm .d_is_row)) [] [] f fd) : Binds K fd (pp .d_is_row) [] :=
  F.bindsN fun _ _ _ _ _ _ us hl => match us, hl with | [_, _], _ => rfl
theorem bn_d_days_done {K : Fg} {fd : FuncData} {f : Addr} (F : FunD K "days_done" "days_done" (defArgs (stm .d_days_done)) (defBody (stm .d_days_done)) (defScope (stm .d_days_done)) [] [] f fd) : Binds K fd (pp .d_days_done) [] :=
  F.bindsN fun _ _ _ _ _ _ us hl => match us, hl with | [_, _], _ => rfl
theorem bn_d_need_log {K : Fg} {fd : FuncData} {f : Addr} (F : FunD K "need_log" "need_log" (defArgs (stm .d_need_log)) (defBody (stm .d_need_log)) (defScope (stm .d_need_log)) [] [] f fd) : Binds K fd (pp .d_need_log) [] :=
  F.bindsN fun _ _ _ _ _ _ us hl => match us, hl with | [_, _], _ => rfl
theorem bn_d_months_of {K : Fg} {fd : FuncData} {f : Addr} (F : FunD K "months_of" "months_of" (defArgs (stm .d_months_of)) (defBody (stm .d_months_of)) (defScope (stm .d_months_of)) [] [] f fd) : Binds K fd (pp .d_months_of) [] :=
  F.bindsN fun _ _ _ _ _ _ us hl => match us, hl with | [_, _], _ => rfl
theorem bn_d_done_in {K : Fg} {fd : FuncData} {f : Addr} (F : FunD K "done_in" "done_in" (defArgs (stm .d_done_in)) (defBody (stm .d_done_in)) (defScope (stm .d_done_in)) [] [] f fd) : Binds K fd (pp .d_done_in) [] :=
  F.bindsN fun _ _ _ _ _ _ us hl => match us, hl with | [_, _], _ => rfl
theorem bn_d_paid {K : Fg} {fd : FuncData} {f : Addr} (F : FunD K "paid" "paid" (defArgs (stm .d_paid)) (defBody (stm .d_paid)) (defScope (stm .d_paid)) [] [] f fd) : Binds K fd (pp .d_paid) [] :=
  F.bindsN fun _ _ _ _ _ _ us hl => match us, hl with | [_, _], _ => rfl
theorem bn_l_cell_at {K : Fg} {fd : FuncData} {f : Addr} (F : FunD K "_law_cell_at" "_law_cell_at" (defArgs (stm .l_cell_at)) (defBody (stm .l_cell_at)) (defScope (stm .l_cell_at)) [] [] f fd) : Binds K fd (pp .l_cell_at) [] :=
  F.bindsN fun _ _ _ _ _ _ us hl => match us, hl with | [_, _], _ => rfl
theorem bn_l_mixed {K : Fg} {fd : FuncData} {f : Addr} (F : FunD K "_law_mixed" "_law_mixed" (defArgs (stm .l_mixed)) (defBody (stm .l_mixed)) (defScope (stm .l_mixed)) [] [] f fd) : Binds K fd (pp .l_mixed) [] :=
  F.bindsN fun _ _ _ _ _ _ us hl => match us, hl with | [_, _, _], _ => rfl
theorem bn_l_draw {K : Fg} {fd : FuncData} {f : Addr} (F : FunD K "_law_draw" "_law_draw" (defArgs (stm .l_draw)) (defBody (stm .l_draw)) (defScope (stm .l_draw)) [] [] f fd) : Binds K fd (pp .l_draw) [] :=
  F.bindsN fun _ _ _ _ _ _ us hl => match us, hl with | [_, _, _], _ => rfl
theorem bn_l_pick {K : Fg} {fd : FuncData} {f : Addr} (F : FunD K "_law_pick" "_law_pick" (defArgs (stm .l_pick)) (defBody (stm .l_pick)) (defScope (stm .l_pick)) [] [] f fd) : Binds K fd (pp .l_pick) [] :=
  F.bindsN fun _ _ _ _ _ _ us hl => match us, hl with | [_, _, _], _ => rfl
theorem bn_l_which {K : Fg} {fd : FuncData} {f : Addr} (F : FunD K "_law_which" "_law_which" (defArgs (stm .l_which)) (defBody (stm .l_which)) (defScope (stm .l_which)) [] [] f fd) : Binds K fd (pp .l_which) [] :=
  F.bindsN fun _ _ _ _ _ _ us hl => match us, hl with | [_], _ => rfl
theorem bn_l_ask {K : Fg} {fd : FuncData} {f : Addr} (F : FunD K "_law_ask" "_law_ask" (defArgs (stm .l_ask)) (defBody (stm .l_ask)) (defScope (stm .l_ask)) [] [] f fd) : Binds K fd (pp .l_ask) [] :=
  F.bindsN fun _ _ _ _ _ _ us hl => match us, hl with | [_, _, _], _ => rfl
theorem bn_d_law {K : Fg} {fd : FuncData} {f : Addr} (F : FunD K "law" "law" (defArgs (stm .d_law)) (defBody (stm .d_law)) (defScope (stm .d_law)) [] [] f fd) : Binds K fd (pp .d_law) [] :=
  F.bindsN fun _ _ _ _ _ _ us hl => match us, hl with | [_], _ => rfl
theorem bn {K : Fg} {fd : FuncData} {a : Addr} (f : Fn) (F : FunD K (nm f) (nm f) (defArgs (stm f)) (defBody (stm f)) (defScope (stm f)) [] [] a fd) : Binds K fd (pp f) [] := by
  cases f with
  | d_is_whole => exact bn_d_is_whole F
  | d_is_name => exact bn_d_is_name F
  | d_is_box => exact bn_d_is_box F
  | d_is_part => exact bn_d_is_part F
  | d_good_drawing => exact bn_d_good_drawing F
  | d_part_of => exact bn_d_part_of F
  | d_top_of => exact bn_d_top_of F
  | d_room_of => exact bn_d_room_of F
  | d_side_shared => exact bn_d_side_shared F
  | d_ground_shared => exact bn_d_ground_shared F
  | d_clash => exact bn_d_clash F
  | d_rests_of => exact bn_d_rests_of F
  | d_holds => exact bn_d_holds F
  | d_carried => exact bn_d_carried F
  | d_part_wrong => exact bn_d_part_wrong F
  | d_wrong_of => exact bn_d_wrong_of F
  | d_is_sound => exact bn_d_is_sound F
  | d_is_rate => exact bn_d_is_rate F
  | d_good_book => exact bn_d_good_book F
  | d_is_told => exact bn_d_is_told F
  | d_needs_of => exact bn_d_needs_of F
  | d_is_straight => exact bn_d_is_straight F
  | d_good_job => exact bn_d_good_job F
  | d_need_job => exact bn_d_need_job F
  | d_rate_of => exact bn_d_rate_of F
  | d_work_of => exact bn_d_work_of F
  | d_is_checked => exact bn_d_is_checked F
  | d_names_of => exact bn_d_names_of F
  | d_is_row => exact bn_d_is_row F
  | d_days_done => exact bn_d_days_done F
  | d_need_log => exact bn_d_need_log F
  | d_months_of => exact bn_d_months_of F
  | d_done_in => exact bn_d_done_in F
  | d_paid => exact bn_d_paid F
  | l_cell_at => exact bn_l_cell_at F
  | l_mixed => exact bn_l_mixed F
  | l_draw => exact bn_l_draw F
  | l_pick => exact bn_l_pick F
  | l_which => exact bn_l_which F
  | l_ask => exact bn_l_ask F
  | d_law => exact bn_d_law F
abbrev hk : PySem.W.Hook := hookC 3 fas dfs ct xn
def ob (s : PySem.W.SharedT) : AlC := obsCG 3 fas dfs ct xn (HandSHeadRun.getT s)
theorem ob_eq (s : PySem.W.SharedT) : ob s = hk.obs s.abs := congrArg (obsCG 3 fas dfs ct xn) (funext (HandSHeadRun.getT_eq s))
theorem run (w : World) : HandSHeadRun.RunEq RR (PySem.W.view RR.prog [lawAt]) hk ob 20000 loose w := by
  intro os
  kernel_rfl
def wPl : List Pos := [⟨197, 4, 197, 12⟩, ⟨197, 15, 197, 129⟩, ⟨197, 4, 197, 129⟩, ⟨197, 16, 197, 26⟩, ⟨197, 27, 197, 33⟩, ⟨197, 35, 197, 44⟩, ⟨197, 16, 197, 45⟩, ⟨197, 47, 197, 57⟩, ⟨197, 58, 197, 64⟩, ⟨197, 66, 197, 72⟩, ⟨197, 47, 197, 73⟩, ⟨197, 75, 197, 85⟩, ⟨197, 86, 197, 92⟩, ⟨197, 94, 197, 100⟩, ⟨197, 75, 197, 101⟩, ⟨197, 103, 197, 113⟩, ⟨197, 114, 197, 120⟩, ⟨197, 122, 197, 127⟩, ⟨197, 103, 197, 128⟩, ⟨198, 4, 198, 12⟩, ⟨198, 4, 198, 19⟩, ⟨198, 20, 198, 135⟩, ⟨198, 4, 198, 136⟩, ⟨198, 4, 198, 136⟩, ⟨198, 21, 198, 31⟩, ⟨198, 32, 198, 38⟩, ⟨198, 40, 198, 46⟩, ⟨198, 21, 198, 47⟩, ⟨198, 49, 198, 59⟩, ⟨198, 60, 198, 66⟩, ⟨198, 68, 198, 74⟩, ⟨198, 49, 198, 75⟩, ⟨198, 77, 198, 87⟩, ⟨198, 88, 198, 94⟩, ⟨198, 96, 198, 104⟩, ⟨198, 77, 198, 105⟩, ⟨198, 107, 198, 117⟩, ⟨198, 118, 198, 124⟩, ⟨198, 126, 198, 133⟩, ⟨198, 107, 198, 134⟩, ⟨199, 4, 199, 12⟩, ⟨199, 4, 199, 19⟩, ⟨199, 20, 199, 142⟩, ⟨199, 4, 199, 143⟩, ⟨199, 4, 199, 143⟩, ⟨199, 21, 199, 31⟩, ⟨199, 32, 199, 38⟩, ⟨199, 40, 199, 47⟩, ⟨199, 21, 199, 48⟩, ⟨199, 50, 199, 60⟩, ⟨199, 61, 199, 67⟩, ⟨199, 69, 199, 77⟩, ⟨199, 50, 199, 78⟩, ⟨199, 80, 199, 90⟩, ⟨199, 91, 199, 97⟩, ⟨199, 99, 199, 107⟩, ⟨199, 80, 199, 108⟩, ⟨199, 110, 199, 120⟩, ⟨199, 121, 199, 127⟩, ⟨199, 129, 199, 140⟩, ⟨199, 110, 199, 141⟩, ⟨200, 4, 200, 12⟩, ⟨200, 4, 200, 19⟩, ⟨200, 20, 200, 130⟩, ⟨200, 4, 200, 131⟩, ⟨200, 4, 200, 131⟩, ⟨200, 21, 200, 31⟩, ⟨200, 32, 200, 38⟩, ⟨200, 40, 200, 45⟩, ⟨200, 21, 200, 46⟩, ⟨200, 48, 200, 58⟩, ⟨200, 59, 200, 65⟩, ⟨200, 67, 200, 73⟩, ⟨200, 48, 200, 74⟩, ⟨200, 76, 200, 86⟩, ⟨200, 87, 200, 93⟩, ⟨200, 95, 200, 99⟩, ⟨200, 76, 200, 100⟩, ⟨200, 102, 200, 112⟩, ⟨200, 113, 200, 119⟩, ⟨200, 121, 200, 128⟩, ⟨200, 102, 200, 129⟩, ⟨201, 7, 201, 15⟩, ⟨201, 7, 201, 21⟩, ⟨201, 22, 201, 26⟩, ⟨201, 7, 201, 27⟩, ⟨201, 31, 201, 32⟩, ⟨201, 7, 201, 32⟩, ⟨201, 40, 201, 50⟩, ⟨201, 51, 201, 57⟩, ⟨201, 59, 201, 69⟩, ⟨201, 40, 201, 70⟩, ⟨201, 36, 201, 70⟩, ⟨201, 7, 201, 70⟩, ⟨202, 16, 202, 25⟩, ⟨202, 28, 202, 29⟩, ⟨202, 27, 202, 29⟩, ⟨202, 15, 202, 30⟩, ⟨202, 8, 202, 30⟩, ⟨201, 4, 202, 30⟩, ⟨203, 12, 203, 21⟩, ⟨203, 23, 203, 31⟩, ⟨203, 23, 203, 37⟩, ⟨203, 38, 203, 42⟩, ⟨203, 23, 203, 43⟩, ⟨203, 11, 203, 44⟩, ⟨203, 4, 203, 44⟩]
def wPos : Nat → Pos := fun i => wPl.getD i ⟨0, 0, 0, 0⟩
theorem wEq : defBody (stm .l_which) = wAst wPos := by kernel_rfl
theorem wSc : whScB (defScope (stm .l_which)) = true := by kernel_rfl
theorem wLn : lineB wPos = true := by decide
theorem tab {K : Fg} {h : Heap} {mg : Str → Option Value} (X : MemIn K h) (G : h.Ns mainGlobals mg) (c : SaysC fas dfs ct xn K) : GX se (ecOf (noL K) xn) (noL K) mg ∧ ∀ f, ∃ b fd N ps qual params body scope, DX se T (noL K) mg f b fd N ps qual params body scope := by
  have X := noL_in X
  have FF := xAll_ok X G c.x
  refine ⟨gx_of X G (fun x hx => ?_) c.c (fun _ => rfl) FF (fun mi hq => ?_), fun f => ?_⟩
  · have c1 := (He.ba (show ((fas.all fun f => f.ok (noL K)) && dfs.all fun d => d.ok (noL K)) = true from congrArg (fun z : AlC => z.1.1) c)).1
    exact List.all_eq_true.mp c1 (.free x) (List.mem_append_right _ (List.mem_map_of_mem hx))
  · obtain ⟨fd, F⟩ := c.d.def_ (ix .l_which) (dfs_at .l_which)
    have F : FunD (noL K) "_law_which" "_law_which" (defArgs (stm .l_which)) (defBody (stm .l_which)) (defScope (stm .l_which)) [] [] (He.ga (noL K) "_law_which") fd := F
    exact ⟨rfl, fun P w base => whAt_of FF mi F (He.glo_ok X G (c.d.fact (ix .l_which) (fas_at .l_which))) (bn_l_which F) wEq wLn wSc⟩
  · obtain ⟨fd, F⟩ := c.d.def_ (ix f) (dfs_at f)
    have F : FunD (noL K) (nm f) (nm f) (defArgs (stm f)) (defBody (stm f)) (defScope (stm f)) [] [] (He.ga (noL K) (nm f)) fd := F
    exact ⟨_, fd, NN f, pp f, _, _, _, _, He.glo_ok X G (c.d.fact (ix f) (fas_at f)), F, bn f F, List.all_eq_true.mp chk f (mem_all f)⟩
theorem holds_of (k : Nat) (hk1 : Room (k + 1) callerA) (main : ∀ ns : List Int, ns.length ≤ 63 → (∀ z ∈ ns, Builtin.Int.intBits z ≤ 1048576) → ∃ μ, SW.callN T (k + 1) .raw 0 .d_law [.v (.lst (ns.map SW.PV.int))] [] = .ok (.v (.bl true)) μ) : PySem.Challenge.rw_siteworks_k19_logs_refused.Holds := by
  w_on; o_law
  refine HandSHeadRun.head_any (r := RR) (q := PySem.W.view RR.prog [lawAt]) (H := hk) (ob := ob) (M := 20000) (loose := loose) (d := HandSHeadRun.topDef RR.prog lawAt) (kwd := []) ob_eq
    (by kernel_rfl) (fun s => by kernel_rfl) run (by kernel_rfl) (by kernel_rfl) (by kernel_rfl) (by rfl) (by first | assumption | decide +kernel) (by decide +kernel) ⟨rfl, rfl, rfl, rfl, rfl, by decide +kernel⟩ ?hw ?hc
  case hw => w_witness2
  case hc =>
    refine walk_sw (l := PySem.Challenge.rw_siteworks_k19_logs_refused) (n := 63) (k := k + 1) (x := "_law_script") rfl (by decide) (by kernel_rfl) hk1 ?F
    intro w mg fa a h Y G hmg
    obtain ⟨K, KX, c⟩ := Y
    have e : (HandSHeadRun.topDef RR.prog lawAt).name = ("law" : PySem.Str) := by kernel_rfl
    rw [e] at hmg
    refine ⟨K, KX, fun hn => ?_⟩
    obtain ⟨GG, D⟩ := tab KX G c
    obtain ⟨fd, F⟩ := c.d.def_ (ix .d_law) (dfs_at .d_law)
    have F : FunD (noL K) "law" "law" (defArgs (stm .d_law)) (defBody (stm .d_law)) (defScope (stm .d_law)) [] [] (He.ga (noL K) "law") fd := F
    have g := He.glo_ok (noL_in KX) G (c.d.fact (ix .d_law) (fas_at .d_law))
    have z := hmg.symm.trans g
    cases z
    have b := FunD.bindsA (ps := ["_law_script"]) F fun _ _ _ _ _ _ us hl => match us, hl with | [_], _ => rfl
    exact ⟨fd, spF T (ecOf (noL K) xn) (noL K) (k + 1) .d_law, fun s u => b s [u] rfl, fun H ns hl hb hS => sp_law hn hS (main ns hl hb), fun base _ _ =>
      DX.step GG (tower GG D k) ⟨g, F, bn .d_law F, List.all_eq_true.mp chk .d_law (mem_all .d_law)⟩⟩
end K
end
section
set_option maxRecDepth 100000
/-! More rules: loops and comprehensions along typed lists. -/
namespace SW
section
variable {F : Type} {T : F → FD F} {C : Mode → Nat → F → List Val → M Val} {b : Nat} {l : Loc} {μ : Mem}
/-! ### comprehensions -/
/-- exceptions are not let by -/
def nx {α : Type} (r : Res α) : Res α := match r with
  | .ok a ν => .ok a ν
  | _ => .no
theorem nx_ok {α : Type} (a : α) (μ : Mem) : nx (.ok a μ) = .ok a μ := rfl
theorem nx_ite {α : Type} {c : Prop} [Decidable c] (x y : Res α) : nx (if c then x else y) = if c then nx x else nx y := by split <;> rfl
theorem flat_v (p : PV) (μ : Mem) : flat (.v p) μ = .ok p μ := rfl
theorem ite_ok {α : Type} {c : Prop} [Decidable c] (x y : α) (μ : Mem) : (if c then Res.ok x μ else Res.ok y μ) = Res.ok (if c then x else y) μ := by split <;> rfl
theorem bind_ite {α β : Type} {c : Prop} [Decidable c] (x y : Res α) (f : α → Mem → Res β) : (if c then x else y).bind f = if c then x.bind f else y.bind f := by split <;> rfl
/-- one item of a comprehension, behind its target -/
def stepY (C : Mode → Nat → F → List Val → M Val) (b : Nat) (elt : E F) (cs : List (Cn F)) (o : Option Loc) (μ : Mem) : Res (Option PV) := match o with
  | some l' => nx ((evC C b cs l' μ).bind fun ok ν => if ok then (evE C b elt l' ν).bind fun v ξ => (flat v ξ).bind fun y ζ => .ok (some y) ζ else .ok none ν)
  | none => .no
theorem stepX_eq (elt : E F) (p : Pat) (cs : List (Cn F)) (own : List Nat) (x : PV) : stepX C b elt p cs own l x μ = stepY C b elt cs (asgP p x (wipeL l own)) μ := by
  unfold stepX stepY noX
  cases asgP p x (wipeL l own) with
  | none => rfl
  | some l' =>
    show nx _ = nx _
    congr 1
    show (evC C b cs l' μ).bind _ = _
    congr 1; funext ok ν
    cases ok <;> rfl
theorem stepY_some (elt : E F) (cs : List (Cn F)) (l' : Loc) : stepY C b elt cs (some l') μ = nx ((evC C b cs l' μ).bind fun ok ν => if ok then (evE C b elt l' ν).bind fun v ξ => (flat v ξ).bind fun y ζ => .ok (some y) ζ else .ok none ν) := rfl
/-- along typed things -/
def compM {α : Type} (g : α → Mem → Res (Option PV)) : List α → Mem → Res (List PV)
  | [], μ => .ok [] μ
  | x :: xs, μ => (g x μ).bind fun y ν => (compM g xs ν).bind fun ys ξ => .ok (consO y ys) ξ
theorem compL_fuse {α : Type} (f : PV → M (Option PV)) (e : α → PV) : ∀ (xs : List α) (μ : Mem), compL f (xs.map e) μ = compM (fun x ν => f (e x) ν) xs μ
  | [], μ => rfl
  | x :: xs, μ => by
    show (f (e x) μ).bind (fun y ν => (compL f (xs.map e) ν).bind fun ys ξ => Res.ok (consO y ys) ξ) = _
    show _ = (f (e x) μ).bind fun y ν => (compM (fun x ν => f (e x) ν) xs ν).bind fun ys ξ => .ok (consO y ys) ξ
    congr 1; funext y ν
    rw [compL_fuse f e xs ν]
theorem compM_pure {α : Type} (h : α → Option PV) : ∀ (xs : List α) (μ : Mem), compM (fun x ν => .ok (h x) ν) xs μ = .ok (xs.filterMap h) μ
  | [], μ => rfl
  | x :: xs, μ => by
    show (compM (fun x ν => .ok (h x) ν) xs μ).bind (fun ys ξ => .ok (consO (h x) ys) ξ) = _
    rw [compM_pure h xs μ]
    cases e : h x <;> simp [e, consO]
theorem compM_cond {α : Type} (c : α → Bool) (y : α → PV) (xs : List α) (μ : Mem) : compM (fun x ν => if c x = true then .ok (some (y x)) ν else .ok none ν) xs μ = .ok ((xs.filter c).map y) μ := by
  have : (fun x ν => if c x = true then Res.ok (some (y x)) ν else .ok none ν) = fun (x : α) (ν : Mem) => Res.ok (if c x = true then some (y x) else none) ν := by
    funext x ν; split <;> rfl
  rw [this, compM_pure]
  congr 1
  induction xs with
  | nil => rfl
  | cons x xs ih => rw [List.filterMap_cons, List.filter_cons]; cases c x <;> simp [ih]
theorem compM_map {α : Type} (y : α → PV) (xs : List α) (μ : Mem) : compM (fun x ν => .ok (some (y x)) ν) xs μ = .ok (xs.map y) μ := by
  rw [compM_pure]; simp
theorem compM_at {α : Type} {g : α → Mem → Res (Option PV)} (h : α → Option PV) : ∀ (xs : List α), (∀ x ∈ xs, g x μ = .ok (h x) μ) → compM g xs μ = .ok (xs.filterMap h) μ
  | [], _ => rfl
  | x :: xs, H => by
    show (g x μ).bind _ = _
    rw [H x (by simp)]
    show (compM g xs μ).bind _ = _
    rw [compM_at h xs fun y hy => H y (by simp [hy])]
    cases e : h x <;> simp [e, consO]
theorem compM_fat {α : Type} {g : α → Mem → Res (Option PV)} (c : α → Bool) (y : α → PV) (xs : List α) (H : ∀ x ∈ xs, g x μ = .ok (if c x = true then some (y x) else none) μ) : compM g xs μ = .ok ((xs.filter c).map y) μ := by
  rw [compM_at (fun x => if c x = true then some (y x) else none) xs H, ← compM_pure (fun x => if c x = true then some (y x) else none) xs μ, ← compM_cond c y xs μ]
  congr 1
  funext x ν; split <;> rfl
theorem compM_mat {α : Type} {g : α → Mem → Res (Option PV)} (y : α → PV) (xs : List α) (H : ∀ x ∈ xs, g x μ = .ok (some (y x)) μ) : compM g xs μ = .ok (xs.map y) μ := by
  rw [compM_at (fun x => some (y x)) xs H]; simp
theorem compL_nil (f : PV → M (Option PV)) (μ : Mem) : compL f [] μ = .ok [] μ := rfl
theorem compL_cons (f : PV → M (Option PV)) (x : PV) (xs : List PV) (μ : Mem) : compL f (x :: xs) μ = (f x μ).bind fun y ν => (compL f xs ν).bind fun ys ξ => .ok (consO y ys) ξ := rfl
theorem allBl_map {α : Type} (f : α → Bool) : ∀ xs : List α, allBl (xs.map fun o => PV.bl (f o)) = some (xs.map f)
  | [] => rfl
  | x :: xs => by rw [List.map_cons, allBl, allBl_map f xs]; rfl
theorem allInt_map {α : Type} (f : α → Int) : ∀ xs : List α, allInt (xs.map fun o => PV.int (f o)) = some (xs.map f)
  | [] => rfl
  | x :: xs => by rw [List.map_cons, allInt, allInt_map f xs]; rfl
theorem any_id {α : Type} (f : α → Bool) (xs : List α) : (xs.map f).any id = xs.any f := by rw [List.any_map]; rfl
theorem all_id {α : Type} (f : α → Bool) (xs : List α) : (xs.map f).all id = xs.all f := by rw [List.all_map]; rfl
theorem sumI_eq : ∀ xs : List Int, sumI xs = xs.sum
  | [] => rfl
  | x :: xs => by rw [sumI, sumI_eq xs, List.sum_cons]
/-! ### sources -/
theorem rangeL_typed (m : Int) (n : Nat) : rangeL m n = (List.range n).map fun (i : Nat) => PV.int (m + i) := rangeL_map n m
theorem enum_typed {α : Type} (e : α → PV) (xs : List α) : enumL 0 (xs.map e) = xs.zipIdx.map fun p => PV.tup [.int p.2, e p.1] := by
  rw [enumL_map]
  apply List.ext_getElem?
  intro i
  simp only [List.getElem?_mapIdx, List.getElem?_map, List.getElem?_zipIdx, Int.zero_add, Nat.zero_add]
  cases xs[i]? <;> rfl
theorem zip_typed {α β : Type} (e : α → PV) (e' : β → PV) : ∀ (xs : List α) (ys : List β), zipL (xs.map e) (ys.map e') = (xs.zip ys).map fun p => PV.tup [e p.1, e' p.2]
  | [], ys => by cases ys <;> rfl
  | x :: xs, [] => rfl
  | x :: xs, y :: ys => by
    rw [List.map_cons, List.map_cons, zipL, zip_typed e e' xs ys]; rfl
theorem i_zip (e e2 : E F) : evI C b (.zip e e2) l μ = (evE C b e l μ).bind fun x ν => (evE C b e2 l ν).bind fun y ξ => (seqS x ξ).bind fun r ζ => (seqS y ζ).bind fun q ω => .ok (zipL r.1 q.1, r.2 ++ q.2) ω := by rw [evI]; rfl
theorem seqS_l (xs : List PV) (μ : Mem) : seqS (.v (.lst xs)) μ = .ok (xs, []) μ := rfl
theorem seqS_t (xs : List PV) (μ : Mem) : seqS (.v (.tup xs)) μ = .ok (xs, []) μ := rfl
/-! ### loops -/
theorem turn_eq (p : Pat) (body : List (S F)) (x : PV) : turn C b p body x l μ = match asgP p x l with | some l' => evB C b body l' μ | none => .no := by
  unfold turn; cases asgP p x l <;> rfl
theorem turn_v (i : Nat) (body : List (S F)) (x : PV) : turn C b (.v i) body x l μ = evB C b body (l.set i (some (.v x))) μ := rfl
theorem turn_t (ps : List Pat) (body : List (S F)) (xs : List PV) : turn C b (.t ps) body (.tup xs) l μ = match asgPs ps xs l with | some l' => evB C b body l' μ | none => .no := by
  unfold turn
  rw [asgP]
  cases asgPs ps xs l <;> rfl
/-- slots get what they get -/
def putS : Loc → List Nat → List (Option Val) → Loc
  | l, i :: is, v :: vs => putS (l.set i v) is vs
  | l, _, _ => l
theorem for_all {α : Type} {f : PV → Loc → M (Loc × Fl)} {e : α → PV} (I : List α → Loc → Mem → Prop) : ∀ (xs : List α) (pre : List α) (l : Loc) (μ : Mem), I pre l μ →
    (∀ (p : List α) (x : α) (q : List α) (l : Loc) (μ : Mem), pre ++ xs = p ++ x :: q → I p l μ → ∃ l' μ', f (e x) l μ = .ok (l', .nx) μ' ∧ I (p ++ [x]) l' μ') → ∃ l' μ', forL f (xs.map e) l μ = .ok (l', .nx) μ' ∧ I (pre ++ xs) l' μ'
  | [], pre, l, μ, h, _ => ⟨l, μ, rfl, by simpa using h⟩
  | x :: xs, pre, l, μ, h, step => by
    obtain ⟨l1, μ1, e1, h1⟩ := step pre x xs l μ rfl h
    obtain ⟨l2, μ2, e2, h2⟩ := for_all I xs (pre ++ [x]) l1 μ1 h1 (fun p y q l μ hp => step p y q l μ (by simpa using hp))
    refine ⟨l2, μ2, ?_, by simpa using h2⟩
    show (f (e x) l μ).bind _ = _
    rw [e1]
    exact e2
theorem for1 {α : Type} {f : PV → Loc → M (Loc × Fl)} {e : α → PV} {xs : List α} {X : Res (Loc × Fl)} (hX : forL f (xs.map e) l μ = X) (i0 : Nat) (I : List α → Option Val → Mem → Prop)
    (h0 : ∃ v0, l[i0]? = some v0 ∧ I [] v0 μ)
    (step : ∀ (p : List α) (x : α) (q : List α) (v0 : Option Val) (μ : Mem), xs = p ++ x :: q → I p v0 μ → ∃ v0' μ', f (e x) (l.set i0 v0) μ = .ok (l.set i0 v0', .nx) μ' ∧ I (p ++ [x]) v0' μ') :
    ∃ v0 μ', X = .ok (l.set i0 v0, .nx) μ' ∧ I xs v0 μ' := by
  obtain ⟨v0, g0, h3⟩ := h0
  have Z := for_all (f := f) (e := e) (fun p l' μ' => ∃ v0, l' = l.set i0 v0 ∧ I p v0 μ') xs [] l μ ⟨v0, ?_, h3⟩ ?_
  obtain ⟨l', μ', e1, v0, e2, e3⟩ := Z
  · exact ⟨v0, μ', by rw [← hX, e1, e2], e3⟩
  · obtain ⟨_, z0⟩ := List.getElem?_eq_some_iff.mp g0
    subst z0
    simp
  · rintro p x q l' μ' hp ⟨v0, rfl, hv⟩
    obtain ⟨v0', μ'', e1, e2⟩ := step p x q v0 μ' hp hv
    exact ⟨_, _, e1, v0', rfl, e2⟩
theorem for2 {α : Type} {f : PV → Loc → M (Loc × Fl)} {e : α → PV} {xs : List α} {X : Res (Loc × Fl)} (hX : forL f (xs.map e) l μ = X) (i0 i1 : Nat) (I : List α → Option Val → Option Val → Mem → Prop)
    (h0 : ∃ v0 v1, l[i0]? = some v0 ∧ l[i1]? = some v1 ∧ I [] v0 v1 μ)
    (step : ∀ (p : List α) (x : α) (q : List α) (v0 v1 : Option Val) (μ : Mem), xs = p ++ x :: q → I p v0 v1 μ → ∃ v0' v1' μ', f (e x) ((l.set i0 v0).set i1 v1) μ = .ok ((l.set i0 v0').set i1 v1', .nx) μ' ∧ I (p ++ [x]) v0' v1' μ') :
    ∃ v0 v1 μ', X = .ok ((l.set i0 v0).set i1 v1, .nx) μ' ∧ I xs v0 v1 μ' := by
  obtain ⟨v0, v1, g0, g1, h3⟩ := h0
  have Z := for_all (f := f) (e := e) (fun p l' μ' => ∃ v0 v1, l' = (l.set i0 v0).set i1 v1 ∧ I p v0 v1 μ') xs [] l μ ⟨v0, v1, ?_, h3⟩ ?_
  obtain ⟨l', μ', e1, v0, v1, e2, e3⟩ := Z
  · exact ⟨v0, v1, μ', by rw [← hX, e1, e2], e3⟩
  · obtain ⟨_, z0⟩ := List.getElem?_eq_some_iff.mp g0
    obtain ⟨_, z1⟩ := List.getElem?_eq_some_iff.mp g1
    subst z0 z1
    simp
  · rintro p x q l' μ' hp ⟨v0, v1, rfl, hv⟩
    obtain ⟨v0', v1', μ'', e1, e2⟩ := step p x q v0 v1 μ' hp hv
    exact ⟨_, _, e1, v0', v1', rfl, e2⟩
theorem for3 {α : Type} {f : PV → Loc → M (Loc × Fl)} {e : α → PV} {xs : List α} {X : Res (Loc × Fl)} (hX : forL f (xs.map e) l μ = X) (i0 i1 i2 : Nat) (I : List α → Option Val → Option Val → Option Val → Mem → Prop)
    (h0 : ∃ v0 v1 v2, l[i0]? = some v0 ∧ l[i1]? = some v1 ∧ l[i2]? = some v2 ∧ I [] v0 v1 v2 μ)
    (step : ∀ (p : List α) (x : α) (q : List α) (v0 v1 v2 : Option Val) (μ : Mem), xs = p ++ x :: q → I p v0 v1 v2 μ → ∃ v0' v1' v2' μ', f (e x) (((l.set i0 v0).set i1 v1).set i2 v2) μ = .ok (((l.set i0 v0').set i1 v1').set i2 v2', .nx) μ' ∧ I (p ++ [x]) v0' v1' v2' μ') :
    ∃ v0 v1 v2 μ', X = .ok (((l.set i0 v0).set i1 v1).set i2 v2, .nx) μ' ∧ I xs v0 v1 v2 μ' := by
  obtain ⟨v0, v1, v2, g0, g1, g2, h3⟩ := h0
  have Z := for_all (f := f) (e := e) (fun p l' μ' => ∃ v0 v1 v2, l' = ((l.set i0 v0).set i1 v1).set i2 v2 ∧ I p v0 v1 v2 μ') xs [] l μ ⟨v0, v1, v2, ?_, h3⟩ ?_
  obtain ⟨l', μ', e1, v0, v1, v2, e2, e3⟩ := Z
  · exact ⟨v0, v1, v2, μ', by rw [← hX, e1, e2], e3⟩
  · obtain ⟨_, z0⟩ := List.getElem?_eq_some_iff.mp g0
    obtain ⟨_, z1⟩ := List.getElem?_eq_some_iff.mp g1
    obtain ⟨_, z2⟩ := List.getElem?_eq_some_iff.mp g2
    subst z0 z1 z2
    simp
  · rintro p x q l' μ' hp ⟨v0, v1, v2, rfl, hv⟩
    obtain ⟨v0', v1', v2', μ'', e1, e2⟩ := step p x q v0 v1 v2 μ' hp hv
    exact ⟨_, _, e1, v0', v1', v2', rfl, e2⟩
theorem for4 {α : Type} {f : PV → Loc → M (Loc × Fl)} {e : α → PV} {xs : List α} {X : Res (Loc × Fl)} (hX : forL f (xs.map e) l μ = X) (i0 i1 i2 i3 : Nat) (I : List α → Option Val → Option Val → Option Val → Option Val → Mem → Prop)
    (h0 : ∃ v0 v1 v2 v3, l[i0]? = some v0 ∧ l[i1]? = some v1 ∧ l[i2]? = some v2 ∧ l[i3]? = some v3 ∧ I [] v0 v1 v2 v3 μ)
    (step : ∀ (p : List α) (x : α) (q : List α) (v0 v1 v2 v3 : Option Val) (μ : Mem), xs = p ++ x :: q → I p v0 v1 v2 v3 μ → ∃ v0' v1' v2' v3' μ', f (e x) ((((l.set i0 v0).set i1 v1).set i2 v2).set i3 v3) μ = .ok ((((l.set i0 v0').set i1 v1').set i2 v2').set i3 v3', .nx) μ' ∧ I (p ++ [x]) v0' v1' v2' v3' μ') :
    ∃ v0 v1 v2 v3 μ', X = .ok ((((l.set i0 v0).set i1 v1).set i2 v2).set i3 v3, .nx) μ' ∧ I xs v0 v1 v2 v3 μ' := by
  obtain ⟨v0, v1, v2, v3, g0, g1, g2, g3, h3⟩ := h0
  have Z := for_all (f := f) (e := e) (fun p l' μ' => ∃ v0 v1 v2 v3, l' = (((l.set i0 v0).set i1 v1).set i2 v2).set i3 v3 ∧ I p v0 v1 v2 v3 μ') xs [] l μ ⟨v0, v1, v2, v3, ?_, h3⟩ ?_
  obtain ⟨l', μ', e1, v0, v1, v2, v3, e2, e3⟩ := Z
  · exact ⟨v0, v1, v2, v3, μ', by rw [← hX, e1, e2], e3⟩
  · obtain ⟨_, z0⟩ := List.getElem?_eq_some_iff.mp g0
    obtain ⟨_, z1⟩ := List.getElem?_eq_some_iff.mp g1
    obtain ⟨_, z2⟩ := List.getElem?_eq_some_iff.mp g2
    obtain ⟨_, z3⟩ := List.getElem?_eq_some_iff.mp g3
    subst z0 z1 z2 z3
    simp
  · rintro p x q l' μ' hp ⟨v0, v1, v2, v3, rfl, hv⟩
    obtain ⟨v0', v1', v2', v3', μ'', e1, e2⟩ := step p x q v0 v1 v2 v3 μ' hp hv
    exact ⟨_, _, e1, v0', v1', v2', v3', rfl, e2⟩
theorem for5 {α : Type} {f : PV → Loc → M (Loc × Fl)} {e : α → PV} {xs : List α} {X : Res (Loc × Fl)} (hX : forL f (xs.map e) l μ = X) (i0 i1 i2 i3 i4 : Nat) (I : List α → Option Val → Option Val → Option Val → Option Val → Option Val → Mem → Prop)
    (h0 : ∃ v0 v1 v2 v3 v4, l[i0]? = some v0 ∧ l[i1]? = some v1 ∧ l[i2]? = some v2 ∧ l[i3]? = some v3 ∧ l[i4]? = some v4 ∧ I [] v0 v1 v2 v3 v4 μ)
    (step : ∀ (p : List α) (x : α) (q : List α) (v0 v1 v2 v3 v4 : Option Val) (μ : Mem), xs = p ++ x :: q → I p v0 v1 v2 v3 v4 μ → ∃ v0' v1' v2' v3' v4' μ', f (e x) (((((l.set i0 v0).set i1 v1).set i2 v2).set i3 v3).set i4 v4) μ = .ok (((((l.set i0 v0').set i1 v1').set i2 v2').set i3 v3').set i4 v4', .nx) μ' ∧ I (p ++ [x]) v0' v1' v2' v3' v4' μ') :
    ∃ v0 v1 v2 v3 v4 μ', X = .ok (((((l.set i0 v0).set i1 v1).set i2 v2).set i3 v3).set i4 v4, .nx) μ' ∧ I xs v0 v1 v2 v3 v4 μ' := by
  obtain ⟨v0, v1, v2, v3, v4, g0, g1, g2, g3, g4, h3⟩ := h0
  have Z := for_all (f := f) (e := e) (fun p l' μ' => ∃ v0 v1 v2 v3 v4, l' = ((((l.set i0 v0).set i1 v1).set i2 v2).set i3 v3).set i4 v4 ∧ I p v0 v1 v2 v3 v4 μ') xs [] l μ ⟨v0, v1, v2, v3, v4, ?_, h3⟩ ?_
  obtain ⟨l', μ', e1, v0, v1, v2, v3, v4, e2, e3⟩ := Z
  · exact ⟨v0, v1, v2, v3, v4, μ', by rw [← hX, e1, e2], e3⟩
  · obtain ⟨_, z0⟩ := List.getElem?_eq_some_iff.mp g0
    obtain ⟨_, z1⟩ := List.getElem?_eq_some_iff.mp g1
    obtain ⟨_, z2⟩ := List.getElem?_eq_some_iff.mp g2
    obtain ⟨_, z3⟩ := List.getElem?_eq_some_iff.mp g3
    obtain ⟨_, z4⟩ := List.getElem?_eq_some_iff.mp g4
    subst z0 z1 z2 z3 z4
    simp
  · rintro p x q l' μ' hp ⟨v0, v1, v2, v3, v4, rfl, hv⟩
    obtain ⟨v0', v1', v2', v3', v4', μ'', e1, e2⟩ := step p x q v0 v1 v2 v3 v4 μ' hp hv
    exact ⟨_, _, e1, v0', v1', v2', v3', v4', rfl, e2⟩
theorem for6 {α : Type} {f : PV → Loc → M (Loc × Fl)} {e : α → PV} {xs : List α} {X : Res (Loc × Fl)} (hX : forL f (xs.map e) l μ = X) (i0 i1 i2 i3 i4 i5 : Nat) (I : List α → Option Val → Option Val → Option Val → Option Val → Option Val → Option Val → Mem → Prop)
    (h0 : ∃ v0 v1 v2 v3 v4 v5, l[i0]? = some v0 ∧ l[i1]? = some v1 ∧ l[i2]? = some v2 ∧ l[i3]? = some v3 ∧ l[i4]? = some v4 ∧ l[i5]? = some v5 ∧ I [] v0 v1 v2 v3 v4 v5 μ)
    (step : ∀ (p : List α) (x : α) (q : List α) (v0 v1 v2 v3 v4 v5 : Option Val) (μ : Mem), xs = p ++ x :: q → I p v0 v1 v2 v3 v4 v5 μ → ∃ v0' v1' v2' v3' v4' v5' μ', f (e x) ((((((l.set i0 v0).set i1 v1).set i2 v2).set i3 v3).set i4 v4).set i5 v5) μ = .ok ((((((l.set i0 v0').set i1 v1').set i2 v2').set i3 v3').set i4 v4').set i5 v5', .nx) μ' ∧ I (p ++ [x]) v0' v1' v2' v3' v4' v5' μ') :
    ∃ v0 v1 v2 v3 v4 v5 μ', X = .ok ((((((l.set i0 v0).set i1 v1).set i2 v2).set i3 v3).set i4 v4).set i5 v5, .nx) μ' ∧ I xs v0 v1 v2 v3 v4 v5 μ' := by
  obtain ⟨v0, v1, v2, v3, v4, v5, g0, g1, g2, g3, g4, g5, h3⟩ := h0
  have Z := for_all (f := f) (e := e) (fun p l' μ' => ∃ v0 v1 v2 v3 v4 v5, l' = (((((l.set i0 v0).set i1 v1).set i2 v2).set i3 v3).set i4 v4).set i5 v5 ∧ I p v0 v1 v2 v3 v4 v5 μ') xs [] l μ ⟨v0, v1, v2, v3, v4, v5, ?_, h3⟩ ?_
  obtain ⟨l', μ', e1, v0, v1, v2, v3, v4, v5, e2, e3⟩ := Z
  · exact ⟨v0, v1, v2, v3, v4, v5, μ', by rw [← hX, e1, e2], e3⟩
  · obtain ⟨_, z0⟩ := List.getElem?_eq_some_iff.mp g0
    obtain ⟨_, z1⟩ := List.getElem?_eq_some_iff.mp g1
    obtain ⟨_, z2⟩ := List.getElem?_eq_some_iff.mp g2
    obtain ⟨_, z3⟩ := List.getElem?_eq_some_iff.mp g3
    obtain ⟨_, z4⟩ := List.getElem?_eq_some_iff.mp g4
    obtain ⟨_, z5⟩ := List.getElem?_eq_some_iff.mp g5
    subst z0 z1 z2 z3 z4 z5
    simp
  · rintro p x q l' μ' hp ⟨v0, v1, v2, v3, v4, v5, rfl, hv⟩
    obtain ⟨v0', v1', v2', v3', v4', v5', μ'', e1, e2⟩ := step p x q v0 v1 v2 v3 v4 v5 μ' hp hv
    exact ⟨_, _, e1, v0', v1', v2', v3', v4', v5', rfl, e2⟩
theorem for7 {α : Type} {f : PV → Loc → M (Loc × Fl)} {e : α → PV} {xs : List α} {X : Res (Loc × Fl)} (hX : forL f (xs.map e) l μ = X) (i0 i1 i2 i3 i4 i5 i6 : Nat) (I : List α → Option Val → Option Val → Option Val → Option Val → Option Val → Option Val → Option Val → Mem → Prop)
    (h0 : ∃ v0 v1 v2 v3 v4 v5 v6, l[i0]? = some v0 ∧ l[i1]? = some v1 ∧ l[i2]? = some v2 ∧ l[i3]? = some v3 ∧ l[i4]? = some v4 ∧ l[i5]? = some v5 ∧ l[i6]? = some v6 ∧ I [] v0 v1 v2 v3 v4 v5 v6 μ)
    (step : ∀ (p : List α) (x : α) (q : List α) (v0 v1 v2 v3 v4 v5 v6 : Option Val) (μ : Mem), xs = p ++ x :: q → I p v0 v1 v2 v3 v4 v5 v6 μ → ∃ v0' v1' v2' v3' v4' v5' v6' μ', f (e x) (((((((l.set i0 v0).set i1 v1).set i2 v2).set i3 v3).set i4 v4).set i5 v5).set i6 v6) μ = .ok (((((((l.set i0 v0').set i1 v1').set i2 v2').set i3 v3').set i4 v4').set i5 v5').set i6 v6', .nx) μ' ∧ I (p ++ [x]) v0' v1' v2' v3' v4' v5' v6' μ') :
    ∃ v0 v1 v2 v3 v4 v5 v6 μ', X = .ok (((((((l.set i0 v0).set i1 v1).set i2 v2).set i3 v3).set i4 v4).set i5 v5).set i6 v6, .nx) μ' ∧ I xs v0 v1 v2 v3 v4 v5 v6 μ' := by
  obtain ⟨v0, v1, v2, v3, v4, v5, v6, g0, g1, g2, g3, g4, g5, g6, h3⟩ := h0
  have Z := for_all (f := f) (e := e) (fun p l' μ' => ∃ v0 v1 v2 v3 v4 v5 v6, l' = ((((((l.set i0 v0).set i1 v1).set i2 v2).set i3 v3).set i4 v4).set i5 v5).set i6 v6 ∧ I p v0 v1 v2 v3 v4 v5 v6 μ') xs [] l μ ⟨v0, v1, v2, v3, v4, v5, v6, ?_, h3⟩ ?_
  obtain ⟨l', μ', e1, v0, v1, v2, v3, v4, v5, v6, e2, e3⟩ := Z
  · exact ⟨v0, v1, v2, v3, v4, v5, v6, μ', by rw [← hX, e1, e2], e3⟩
  · obtain ⟨_, z0⟩ := List.getElem?_eq_some_iff.mp g0
    obtain ⟨_, z1⟩ := List.getElem?_eq_some_iff.mp g1
    obtain ⟨_, z2⟩ := List.getElem?_eq_some_iff.mp g2
    obtain ⟨_, z3⟩ := List.getElem?_eq_some_iff.mp g3
    obtain ⟨_, z4⟩ := List.getElem?_eq_some_iff.mp g4
    obtain ⟨_, z5⟩ := List.getElem?_eq_some_iff.mp g5
    obtain ⟨_, z6⟩ := List.getElem?_eq_some_iff.mp g6
    subst z0 z1 z2 z3 z4 z5 z6
    simp
  · rintro p x q l' μ' hp ⟨v0, v1, v2, v3, v4, v5, v6, rfl, hv⟩
    obtain ⟨v0', v1', v2', v3', v4', v5', v6', μ'', e1, e2⟩ := step p x q v0 v1 v2 v3 v4 v5 v6 μ' hp hv
    exact ⟨_, _, e1, v0', v1', v2', v3', v4', v5', v6', rfl, e2⟩
theorem for8 {α : Type} {f : PV → Loc → M (Loc × Fl)} {e : α → PV} {xs : List α} {X : Res (Loc × Fl)} (hX : forL f (xs.map e) l μ = X) (i0 i1 i2 i3 i4 i5 i6 i7 : Nat) (I : List α → Option Val → Option Val → Option Val → Option Val → Option Val → Option Val → Option Val → Option Val → Mem → Prop)
    (h0 : ∃ v0 v1 v2 v3 v4 v5 v6 v7, l[i0]? = some v0 ∧ l[i1]? = some v1 ∧ l[i2]? = some v2 ∧ l[i3]? = some v3 ∧ l[i4]? = some v4 ∧ l[i5]? = some v5 ∧ l[i6]? = some v6 ∧ l[i7]? = some v7 ∧ I [] v0 v1 v2 v3 v4 v5 v6 v7 μ)
    (step : ∀ (p : List α) (x : α) (q : List α) (v0 v1 v2 v3 v4 v5 v6 v7 : Option Val) (μ : Mem), xs = p ++ x :: q → I p v0 v1 v2 v3 v4 v5 v6 v7 μ → ∃ v0' v1' v2' v3' v4' v5' v6' v7' μ', f (e x) ((((((((l.set i0 v0).set i1 v1).set i2 v2).set i3 v3).set i4 v4).set i5 v5).set i6 v6).set i7 v7) μ = .ok ((((((((l.set i0 v0').set i1 v1').set i2 v2').set i3 v3').set i4 v4').set i5 v5').set i6 v6').set i7 v7', .nx) μ' ∧ I (p ++ [x]) v0' v1' v2' v3' v4' v5' v6' v7' μ') :
    ∃ v0 v1 v2 v3 v4 v5 v6 v7 μ', X = .ok ((((((((l.set i0 v0).set i1 v1).set i2 v2).set i3 v3).set i4 v4).set i5 v5).set i6 v6).set i7 v7, .nx) μ' ∧ I xs v0 v1 v2 v3 v4 v5 v6 v7 μ' := by
  obtain ⟨v0, v1, v2, v3, v4, v5, v6, v7, g0, g1, g2, g3, g4, g5, g6, g7, h3⟩ := h0
  have Z := for_all (f := f) (e := e) (fun p l' μ' => ∃ v0 v1 v2 v3 v4 v5 v6 v7, l' = (((((((l.set i0 v0).set i1 v1).set i2 v2).set i3 v3).set i4 v4).set i5 v5).set i6 v6).set i7 v7 ∧ I p v0 v1 v2 v3 v4 v5 v6 v7 μ') xs [] l μ ⟨v0, v1, v2, v3, v4, v5, v6, v7, ?_, h3⟩ ?_
  obtain ⟨l', μ', e1, v0, v1, v2, v3, v4, v5, v6, v7, e2, e3⟩ := Z
  · exact ⟨v0, v1, v2, v3, v4, v5, v6, v7, μ', by rw [← hX, e1, e2], e3⟩
  · obtain ⟨_, z0⟩ := List.getElem?_eq_some_iff.mp g0
    obtain ⟨_, z1⟩ := List.getElem?_eq_some_iff.mp g1
    obtain ⟨_, z2⟩ := List.getElem?_eq_some_iff.mp g2
    obtain ⟨_, z3⟩ := List.getElem?_eq_some_iff.mp g3
    obtain ⟨_, z4⟩ := List.getElem?_eq_some_iff.mp g4
    obtain ⟨_, z5⟩ := List.getElem?_eq_some_iff.mp g5
    obtain ⟨_, z6⟩ := List.getElem?_eq_some_iff.mp g6
    obtain ⟨_, z7⟩ := List.getElem?_eq_some_iff.mp g7
    subst z0 z1 z2 z3 z4 z5 z6 z7
    simp
  · rintro p x q l' μ' hp ⟨v0, v1, v2, v3, v4, v5, v6, v7, rfl, hv⟩
    obtain ⟨v0', v1', v2', v3', v4', v5', v6', v7', μ'', e1, e2⟩ := step p x q v0 v1 v2 v3 v4 v5 v6 v7 μ' hp hv
    exact ⟨_, _, e1, v0', v1', v2', v3', v4', v5', v6', v7', rfl, e2⟩
theorem for9 {α : Type} {f : PV → Loc → M (Loc × Fl)} {e : α → PV} {xs : List α} {X : Res (Loc × Fl)} (hX : forL f (xs.map e) l μ = X) (i0 i1 i2 i3 i4 i5 i6 i7 i8 : Nat) (I : List α → Option Val → Option Val → Option Val → Option Val → Option Val → Option Val → Option Val → Option Val → Option Val → Mem → Prop)
    (h0 : ∃ v0 v1 v2 v3 v4 v5 v6 v7 v8, l[i0]? = some v0 ∧ l[i1]? = some v1 ∧ l[i2]? = some v2 ∧ l[i3]? = some v3 ∧ l[i4]? = some v4 ∧ l[i5]? = some v5 ∧ l[i6]? = some v6 ∧ l[i7]? = some v7 ∧ l[i8]? = some v8 ∧ I [] v0 v1 v2 v3 v4 v5 v6 v7 v8 μ)
    (step : ∀ (p : List α) (x : α) (q : List α) (v0 v1 v2 v3 v4 v5 v6 v7 v8 : Option Val) (μ : Mem), xs = p ++ x :: q → I p v0 v1 v2 v3 v4 v5 v6 v7 v8 μ → ∃ v0' v1' v2' v3' v4' v5' v6' v7' v8' μ', f (e x) (((((((((l.set i0 v0).set i1 v1).set i2 v2).set i3 v3).set i4 v4).set i5 v5).set i6 v6).set i7 v7).set i8 v8) μ = .ok (((((((((l.set i0 v0').set i1 v1').set i2 v2').set i3 v3').set i4 v4').set i5 v5').set i6 v6').set i7 v7').set i8 v8', .nx) μ' ∧ I (p ++ [x]) v0' v1' v2' v3' v4' v5' v6' v7' v8' μ') :
    ∃ v0 v1 v2 v3 v4 v5 v6 v7 v8 μ', X = .ok (((((((((l.set i0 v0).set i1 v1).set i2 v2).set i3 v3).set i4 v4).set i5 v5).set i6 v6).set i7 v7).set i8 v8, .nx) μ' ∧ I xs v0 v1 v2 v3 v4 v5 v6 v7 v8 μ' := by
  obtain ⟨v0, v1, v2, v3, v4, v5, v6, v7, v8, g0, g1, g2, g3, g4, g5, g6, g7, g8, h3⟩ := h0
  have Z := for_all (f := f) (e := e) (fun p l' μ' => ∃ v0 v1 v2 v3 v4 v5 v6 v7 v8, l' = ((((((((l.set i0 v0).set i1 v1).set i2 v2).set i3 v3).set i4 v4).set i5 v5).set i6 v6).set i7 v7).set i8 v8 ∧ I p v0 v1 v2 v3 v4 v5 v6 v7 v8 μ') xs [] l μ ⟨v0, v1, v2, v3, v4, v5, v6, v7, v8, ?_, h3⟩ ?_
  obtain ⟨l', μ', e1, v0, v1, v2, v3, v4, v5, v6, v7, v8, e2, e3⟩ := Z
  · exact ⟨v0, v1, v2, v3, v4, v5, v6, v7, v8, μ', by rw [← hX, e1, e2], e3⟩
  · obtain ⟨_, z0⟩ := List.getElem?_eq_some_iff.mp g0
    obtain ⟨_, z1⟩ := List.getElem?_eq_some_iff.mp g1
    obtain ⟨_, z2⟩ := List.getElem?_eq_some_iff.mp g2
    obtain ⟨_, z3⟩ := List.getElem?_eq_some_iff.mp g3
    obtain ⟨_, z4⟩ := List.getElem?_eq_some_iff.mp g4
    obtain ⟨_, z5⟩ := List.getElem?_eq_some_iff.mp g5
    obtain ⟨_, z6⟩ := List.getElem?_eq_some_iff.mp g6
    obtain ⟨_, z7⟩ := List.getElem?_eq_some_iff.mp g7
    obtain ⟨_, z8⟩ := List.getElem?_eq_some_iff.mp g8
    subst z0 z1 z2 z3 z4 z5 z6 z7 z8
    simp
  · rintro p x q l' μ' hp ⟨v0, v1, v2, v3, v4, v5, v6, v7, v8, rfl, hv⟩
    obtain ⟨v0', v1', v2', v3', v4', v5', v6', v7', v8', μ'', e1, e2⟩ := step p x q v0 v1 v2 v3 v4 v5 v6 v7 v8 μ' hp hv
    exact ⟨_, _, e1, v0', v1', v2', v3', v4', v5', v6', v7', v8', rfl, e2⟩
theorem for10 {α : Type} {f : PV → Loc → M (Loc × Fl)} {e : α → PV} {xs : List α} {X : Res (Loc × Fl)} (hX : forL f (xs.map e) l μ = X) (i0 i1 i2 i3 i4 i5 i6 i7 i8 i9 : Nat) (I : List α → Option Val → Option Val → Option Val → Option Val → Option Val → Option Val → Option Val → Option Val → Option Val → Option Val → Mem → Prop)
    (h0 : ∃ v0 v1 v2 v3 v4 v5 v6 v7 v8 v9, l[i0]? = some v0 ∧ l[i1]? = some v1 ∧ l[i2]? = some v2 ∧ l[i3]? = some v3 ∧ l[i4]? = some v4 ∧ l[i5]? = some v5 ∧ l[i6]? = some v6 ∧ l[i7]? = some v7 ∧ l[i8]? = some v8 ∧ l[i9]? = some v9 ∧ I [] v0 v1 v2 v3 v4 v5 v6 v7 v8 v9 μ)
    (step : ∀ (p : List α) (x : α) (q : List α) (v0 v1 v2 v3 v4 v5 v6 v7 v8 v9 : Option Val) (μ : Mem), xs = p ++ x :: q → I p v0 v1 v2 v3 v4 v5 v6 v7 v8 v9 μ → ∃ v0' v1' v2' v3' v4' v5' v6' v7' v8' v9' μ', f (e x) ((((((((((l.set i0 v0).set i1 v1).set i2 v2).set i3 v3).set i4 v4).set i5 v5).set i6 v6).set i7 v7).set i8 v8).set i9 v9) μ = .ok ((((((((((l.set i0 v0').set i1 v1').set i2 v2').set i3 v3').set i4 v4').set i5 v5').set i6 v6').set i7 v7').set i8 v8').set i9 v9', .nx) μ' ∧ I (p ++ [x]) v0' v1' v2' v3' v4' v5' v6' v7' v8' v9' μ') :
    ∃ v0 v1 v2 v3 v4 v5 v6 v7 v8 v9 μ', X = .ok ((((((((((l.set i0 v0).set i1 v1).set i2 v2).set i3 v3).set i4 v4).set i5 v5).set i6 v6).set i7 v7).set i8 v8).set i9 v9, .nx) μ' ∧ I xs v0 v1 v2 v3 v4 v5 v6 v7 v8 v9 μ' := by
  obtain ⟨v0, v1, v2, v3, v4, v5, v6, v7, v8, v9, g0, g1, g2, g3, g4, g5, g6, g7, g8, g9, h3⟩ := h0
  have Z := for_all (f := f) (e := e) (fun p l' μ' => ∃ v0 v1 v2 v3 v4 v5 v6 v7 v8 v9, l' = (((((((((l.set i0 v0).set i1 v1).set i2 v2).set i3 v3).set i4 v4).set i5 v5).set i6 v6).set i7 v7).set i8 v8).set i9 v9 ∧ I p v0 v1 v2 v3 v4 v5 v6 v7 v8 v9 μ') xs [] l μ ⟨v0, v1, v2, v3, v4, v5, v6, v7, v8, v9, ?_, h3⟩ ?_
  obtain ⟨l', μ', e1, v0, v1, v2, v3, v4, v5, v6, v7, v8, v9, e2, e3⟩ := Z
  · exact ⟨v0, v1, v2, v3, v4, v5, v6, v7, v8, v9, μ', by rw [← hX, e1, e2], e3⟩
  · obtain ⟨_, z0⟩ := List.getElem?_eq_some_iff.mp g0
    obtain ⟨_, z1⟩ := List.getElem?_eq_some_iff.mp g1
    obtain ⟨_, z2⟩ := List.getElem?_eq_some_iff.mp g2
    obtain ⟨_, z3⟩ := List.getElem?_eq_some_iff.mp g3
    obtain ⟨_, z4⟩ := List.getElem?_eq_some_iff.mp g4
    obtain ⟨_, z5⟩ := List.getElem?_eq_some_iff.mp g5
    obtain ⟨_, z6⟩ := List.getElem?_eq_some_iff.mp g6
    obtain ⟨_, z7⟩ := List.getElem?_eq_some_iff.mp g7
    obtain ⟨_, z8⟩ := List.getElem?_eq_some_iff.mp g8
    obtain ⟨_, z9⟩ := List.getElem?_eq_some_iff.mp g9
    subst z0 z1 z2 z3 z4 z5 z6 z7 z8 z9
    simp
  · rintro p x q l' μ' hp ⟨v0, v1, v2, v3, v4, v5, v6, v7, v8, v9, rfl, hv⟩
    obtain ⟨v0', v1', v2', v3', v4', v5', v6', v7', v8', v9', μ'', e1, e2⟩ := step p x q v0 v1 v2 v3 v4 v5 v6 v7 v8 v9 μ' hp hv
    exact ⟨_, _, e1, v0', v1', v2', v3', v4', v5', v6', v7', v8', v9', rfl, e2⟩
theorem for11 {α : Type} {f : PV → Loc → M (Loc × Fl)} {e : α → PV} {xs : List α} {X : Res (Loc × Fl)} (hX : forL f (xs.map e) l μ = X) (i0 i1 i2 i3 i4 i5 i6 i7 i8 i9 i10 : Nat) (I : List α → Option Val → Option Val → Option Val → Option Val → Option Val → Option Val → Option Val → Option Val → Option Val → Option Val → Option Val → Mem → Prop)
    (h0 : ∃ v0 v1 v2 v3 v4 v5 v6 v7 v8 v9 v10, l[i0]? = some v0 ∧ l[i1]? = some v1 ∧ l[i2]? = some v2 ∧ l[i3]? = some v3 ∧ l[i4]? = some v4 ∧ l[i5]? = some v5 ∧ l[i6]? = some v6 ∧ l[i7]? = some v7 ∧ l[i8]? = some v8 ∧ l[i9]? = some v9 ∧ l[i10]? = some v10 ∧ I [] v0 v1 v2 v3 v4 v5 v6 v7 v8 v9 v10 μ)
    (step : ∀ (p : List α) (x : α) (q : List α) (v0 v1 v2 v3 v4 v5 v6 v7 v8 v9 v10 : Option Val) (μ : Mem), xs = p ++ x :: q → I p v0 v1 v2 v3 v4 v5 v6 v7 v8 v9 v10 μ → ∃ v0' v1' v2' v3' v4' v5' v6' v7' v8' v9' v10' μ', f (e x) (((((((((((l.set i0 v0).set i1 v1).set i2 v2).set i3 v3).set i4 v4).set i5 v5).set i6 v6).set i7 v7).set i8 v8).set i9 v9).set i10 v10) μ = .ok (((((((((((l.set i0 v0').set i1 v1').set i2 v2').set i3 v3').set i4 v4').set i5 v5').set i6 v6').set i7 v7').set i8 v8').set i9 v9').set i10 v10', .nx) μ' ∧ I (p ++ [x]) v0' v1' v2' v3' v4' v5' v6' v7' v8' v9' v10' μ') :
    ∃ v0 v1 v2 v3 v4 v5 v6 v7 v8 v9 v10 μ', X = .ok (((((((((((l.set i0 v0).set i1 v1).set i2 v2).set i3 v3).set i4 v4).set i5 v5).set i6 v6).set i7 v7).set i8 v8).set i9 v9).set i10 v10, .nx) μ' ∧ I xs v0 v1 v2 v3 v4 v5 v6 v7 v8 v9 v10 μ' := by
  obtain ⟨v0, v1, v2, v3, v4, v5, v6, v7, v8, v9, v10, g0, g1, g2, g3, g4, g5, g6, g7, g8, g9, g10, h3⟩ := h0
  have Z := for_all (f := f) (e := e) (fun p l' μ' => ∃ v0 v1 v2 v3 v4 v5 v6 v7 v8 v9 v10, l' = ((((((((((l.set i0 v0).set i1 v1).set i2 v2).set i3 v3).set i4 v4).set i5 v5).set i6 v6).set i7 v7).set i8 v8).set i9 v9).set i10 v10 ∧ I p v0 v1 v2 v3 v4 v5 v6 v7 v8 v9 v10 μ') xs [] l μ ⟨v0, v1, v2, v3, v4, v5, v6, v7, v8, v9, v10, ?_, h3⟩ ?_
  obtain ⟨l', μ', e1, v0, v1, v2, v3, v4, v5, v6, v7, v8, v9, v10, e2, e3⟩ := Z
  · exact ⟨v0, v1, v2, v3, v4, v5, v6, v7, v8, v9, v10, μ', by rw [← hX, e1, e2], e3⟩
  · obtain ⟨_, z0⟩ := List.getElem?_eq_some_iff.mp g0
    obtain ⟨_, z1⟩ := List.getElem?_eq_some_iff.mp g1
    obtain ⟨_, z2⟩ := List.getElem?_eq_some_iff.mp g2
    obtain ⟨_, z3⟩ := List.getElem?_eq_some_iff.mp g3
    obtain ⟨_, z4⟩ := List.getElem?_eq_some_iff.mp g4
    obtain ⟨_, z5⟩ := List.getElem?_eq_some_iff.mp g5
    obtain ⟨_, z6⟩ := List.getElem?_eq_some_iff.mp g6
    obtain ⟨_, z7⟩ := List.getElem?_eq_some_iff.mp g7
    obtain ⟨_, z8⟩ := List.getElem?_eq_some_iff.mp g8
    obtain ⟨_, z9⟩ := List.getElem?_eq_some_iff.mp g9
    obtain ⟨_, z10⟩ := List.getElem?_eq_some_iff.mp g10
    subst z0 z1 z2 z3 z4 z5 z6 z7 z8 z9 z10
    simp
  · rintro p x q l' μ' hp ⟨v0, v1, v2, v3, v4, v5, v6, v7, v8, v9, v10, rfl, hv⟩
    obtain ⟨v0', v1', v2', v3', v4', v5', v6', v7', v8', v9', v10', μ'', e1, e2⟩ := step p x q v0 v1 v2 v3 v4 v5 v6 v7 v8 v9 v10 μ' hp hv
    exact ⟨_, _, e1, v0', v1', v2', v3', v4', v5', v6', v7', v8', v9', v10', rfl, e2⟩
theorem for12 {α : Type} {f : PV → Loc → M (Loc × Fl)} {e : α → PV} {xs : List α} {X : Res (Loc × Fl)} (hX : forL f (xs.map e) l μ = X) (i0 i1 i2 i3 i4 i5 i6 i7 i8 i9 i10 i11 : Nat) (I : List α → Option Val → Option Val → Option Val → Option Val → Option Val → Option Val → Option Val → Option Val → Option Val → Option Val → Option Val → Option Val → Mem → Prop)
    (h0 : ∃ v0 v1 v2 v3 v4 v5 v6 v7 v8 v9 v10 v11, l[i0]? = some v0 ∧ l[i1]? = some v1 ∧ l[i2]? = some v2 ∧ l[i3]? = some v3 ∧ l[i4]? = some v4 ∧ l[i5]? = some v5 ∧ l[i6]? = some v6 ∧ l[i7]? = some v7 ∧ l[i8]? = some v8 ∧ l[i9]? = some v9 ∧ l[i10]? = some v10 ∧ l[i11]? = some v11 ∧ I [] v0 v1 v2 v3 v4 v5 v6 v7 v8 v9 v10 v11 μ)
    (step : ∀ (p : List α) (x : α) (q : List α) (v0 v1 v2 v3 v4 v5 v6 v7 v8 v9 v10 v11 : Option Val) (μ : Mem), xs = p ++ x :: q → I p v0 v1 v2 v3 v4 v5 v6 v7 v8 v9 v10 v11 μ → ∃ v0' v1' v2' v3' v4' v5' v6' v7' v8' v9' v10' v11' μ', f (e x) ((((((((((((l.set i0 v0).set i1 v1).set i2 v2).set i3 v3).set i4 v4).set i5 v5).set i6 v6).set i7 v7).set i8 v8).set i9 v9).set i10 v10).set i11 v11) μ = .ok ((((((((((((l.set i0 v0').set i1 v1').set i2 v2').set i3 v3').set i4 v4').set i5 v5').set i6 v6').set i7 v7').set i8 v8').set i9 v9').set i10 v10').set i11 v11', .nx) μ' ∧ I (p ++ [x]) v0' v1' v2' v3' v4' v5' v6' v7' v8' v9' v10' v11' μ') :
    ∃ v0 v1 v2 v3 v4 v5 v6 v7 v8 v9 v10 v11 μ', X = .ok ((((((((((((l.set i0 v0).set i1 v1).set i2 v2).set i3 v3).set i4 v4).set i5 v5).set i6 v6).set i7 v7).set i8 v8).set i9 v9).set i10 v10).set i11 v11, .nx) μ' ∧ I xs v0 v1 v2 v3 v4 v5 v6 v7 v8 v9 v10 v11 μ' := by
  obtain ⟨v0, v1, v2, v3, v4, v5, v6, v7, v8, v9, v10, v11, g0, g1, g2, g3, g4, g5, g6, g7, g8, g9, g10, g11, h3⟩ := h0
  have Z := for_all (f := f) (e := e) (fun p l' μ' => ∃ v0 v1 v2 v3 v4 v5 v6 v7 v8 v9 v10 v11, l' = (((((((((((l.set i0 v0).set i1 v1).set i2 v2).set i3 v3).set i4 v4).set i5 v5).set i6 v6).set i7 v7).set i8 v8).set i9 v9).set i10 v10).set i11 v11 ∧ I p v0 v1 v2 v3 v4 v5 v6 v7 v8 v9 v10 v11 μ') xs [] l μ ⟨v0, v1, v2, v3, v4, v5, v6, v7, v8, v9, v10, v11, ?_, h3⟩ ?_
  obtain ⟨l', μ', e1, v0, v1, v2, v3, v4, v5, v6, v7, v8, v9, v10, v11, e2, e3⟩ := Z
  · exact ⟨v0, v1, v2, v3, v4, v5, v6, v7, v8, v9, v10, v11, μ', by rw [← hX, e1, e2], e3⟩
  · obtain ⟨_, z0⟩ := List.getElem?_eq_some_iff.mp g0
    obtain ⟨_, z1⟩ := List.getElem?_eq_some_iff.mp g1
    obtain ⟨_, z2⟩ := List.getElem?_eq_some_iff.mp g2
    obtain ⟨_, z3⟩ := List.getElem?_eq_some_iff.mp g3
    obtain ⟨_, z4⟩ := List.getElem?_eq_some_iff.mp g4
    obtain ⟨_, z5⟩ := List.getElem?_eq_some_iff.mp g5
    obtain ⟨_, z6⟩ := List.getElem?_eq_some_iff.mp g6
    obtain ⟨_, z7⟩ := List.getElem?_eq_some_iff.mp g7
    obtain ⟨_, z8⟩ := List.getElem?_eq_some_iff.mp g8
    obtain ⟨_, z9⟩ := List.getElem?_eq_some_iff.mp g9
    obtain ⟨_, z10⟩ := List.getElem?_eq_some_iff.mp g10
    obtain ⟨_, z11⟩ := List.getElem?_eq_some_iff.mp g11
    subst z0 z1 z2 z3 z4 z5 z6 z7 z8 z9 z10 z11
    simp
  · rintro p x q l' μ' hp ⟨v0, v1, v2, v3, v4, v5, v6, v7, v8, v9, v10, v11, rfl, hv⟩
    obtain ⟨v0', v1', v2', v3', v4', v5', v6', v7', v8', v9', v10', v11', μ'', e1, e2⟩ := step p x q v0 v1 v2 v3 v4 v5 v6 v7 v8 v9 v10 v11 μ' hp hv
    exact ⟨_, _, e1, v0', v1', v2', v3', v4', v5', v6', v7', v8', v9', v10', v11', rfl, e2⟩
/-! ### a list that grows, or does not -/
def if1 {α : Type} (c : Bool) (p : α) : List α := if c = true then [p] else []
theorem app_ite (c : Bool) (l : Loc) (ws : List PV) (p : PV) : (if c = true then Res.ok (l, Fl.nx) (μ ++ [MO.lst (ws ++ [p])]) else Res.ok (l, Fl.nx) (μ ++ [MO.lst ws])) = Res.ok (l, .nx) (μ ++ [MO.lst (ws ++ if1 c p)]) := by
  cases c <;> simp [if1]
theorem if1_len {α : Type} (c : Bool) (p : α) : (if1 c p).length ≤ 1 := by cases c <;> simp [if1]
theorem if1_map {α β : Type} (f : α → β) (c : Bool) (p : α) : (if1 c p).map f = if1 c (f p) := by cases c <;> rfl
theorem filter_snoc {α : Type} (c : α → Bool) (xs : List α) (x : α) : (xs ++ [x]).filter c = xs.filter c ++ if1 (c x) x := by
  rw [List.filter_append, List.filter_cons, List.filter_nil]
  cases c x <;> rfl
/-! ### the same thing told twice -/
mutual
theorem eqv_refl : ∀ x : PV, eqv x x = true
  | .non => rfl
  | .bl a => by simp [eqv]
  | .int i => by simp [eqv]
  | .str s => by simp [eqv]
  | .tup xs => by rw [eqv]; exact eqvs_refl xs
  | .lst xs => by rw [eqv]; exact eqvs_refl xs
theorem eqvs_refl : ∀ xs : List PV, eqvs xs xs = true
  | [] => rfl
  | x :: xs => by rw [eqvs, eqv_refl x, eqvs_refl xs]; rfl
end
theorem ne_refl {x : PV} (h : dle 40 x = true) : cmp2v .ne x x = some false := by
  show (if (dle 40 x || dle 40 x) = true then some (!eqv x x) else none) = _
  rw [h, eqv_refl]; rfl
theorem eq_refl' {x : PV} (h : dle 40 x = true) : cmp2v .eq x x = some true := by
  show (if (dle 40 x || dle 40 x) = true then some (eqv x x) else none) = _
  rw [h, eqv_refl]; rfl
theorem mem_ins {x y : PV} : ∀ {xs : List PV}, y ∈ ins x xs ↔ y = x ∨ y ∈ xs
  | [] => by simp [ins]
  | z :: xs => by
    rw [ins]
    split
    · rw [List.mem_cons, mem_ins, List.mem_cons]
      constructor
      · rintro (h | h | h)
        · exact .inr (.inl h)
        · exact .inl h
        · exact .inr (.inr h)
      · rintro (h | h | h)
        · exact .inr (.inl h)
        · exact .inl h
        · exact .inr (.inr h)
    · rw [List.mem_cons]
theorem mem_isort {y : PV} : ∀ {xs : List PV}, y ∈ isort xs ↔ y ∈ xs
  | [] => by simp [isort]
  | x :: xs => by rw [isort, mem_ins, mem_isort, List.mem_cons]
theorem dles_all (n : Nat) : ∀ xs : List PV, dles n xs = true ↔ ∀ x ∈ xs, dle n x = true
  | [] => by simp [dles]
  | x :: xs => by rw [dles, Bool.and_eq_true, dles_all n xs]; simp
theorem dle_lst {n : Nat} {xs : List PV} (h : ∀ x ∈ xs, dle n x = true) : dle (n + 1) (.lst xs) = true := by
  rw [dle]; exact (dles_all n xs).mpr h
theorem dle_tup {n : Nat} {xs : List PV} (h : ∀ x ∈ xs, dle n x = true) : dle (n + 1) (.tup xs) = true := by
  rw [dle]; exact (dles_all n xs).mpr h
/-! ### the law's own call -/
theorem call_raw {k : Nat} {f : F} {vs : List Val} {np nl : Nat} {body : List (S F)} (hT : T f = ⟨np, nl, body⟩) (hl : vs.length = np) : callN T (k + 1) .raw b f vs μ = endF .raw b (evB (callN T k) b body (vs.map some ++ List.replicate (nl - np) none) μ) := by
  show runF T (callN T k) .raw b f vs μ = _
  unfold runF
  rw [hT, if_pos hl]
  rfl
theorem endR_ret (c : Nat) (l : Loc) (v : Val) (μ : Mem) : endF .raw c (.ok (l, .ret v) μ) = .ok v μ := by cases v <;> rfl
/-! ### bounds -/
theorem okN_of {n : Nat} (h : n ≤ 1000000) : okN n = true := Nat.ble_eq_true_of_le (by omega)
theorem app_ite0 (c : Bool) (l : Loc) (p : PV) : (if c = true then Res.ok (l, Fl.nx) (μ ++ [MO.lst [p]]) else Res.ok (l, Fl.nx) (μ ++ [MO.lst []])) = Res.ok (l, .nx) (μ ++ [MO.lst (if1 c p)]) := by
  cases c <;> simp [if1]
theorem okg0 {ws : List PV} (h : ws.length ≤ 999000) : okN (ws.length + 1) = true := okN_of (by omega)
theorem okg1 {ws : List PV} (h : ws.length ≤ 999000) (c : Bool) (p : PV) : okN ((ws ++ if1 c p).length + 1) = true := by
  have := if1_len c p
  rw [List.length_append]; exact okN_of (by omega)
theorem okg2 {ws : List PV} (h : ws.length ≤ 999000) (c : Bool) (p : PV) (c' : Bool) (p' : PV) : okN (((ws ++ if1 c p) ++ if1 c' p').length + 1) = true := by
  have := if1_len c p
  have := if1_len c' p'
  rw [List.length_append, List.length_append]; exact okN_of (by omega)
theorem okh1 (c : Bool) (p : PV) : okN ((if1 c p).length + 1) = true := okg1 (ws := []) (by simp) c p
theorem okh2 (c : Bool) (p : PV) (c' : Bool) (p' : PV) : okN ((if1 c p ++ if1 c' p').length + 1) = true := okg2 (ws := []) (by simp) c p c' p'
theorem small64_of {i : Int} (h1 : -1000000000000 ≤ i) (h2 : i ≤ 1000000000000) : small64 i = true := by
  simp only [small64, Bool.and_eq_true, decide_eq_true_eq]; omega
theorem mul_l {i j : Int} (h1 : -1000000000000 ≤ i) (h2 : i ≤ 1000000000000) : bin2 .mul (.int i) (.int j) = some (.int (i * j)) := by
  show (if (small64 i || small64 j) = true then _ else _) = _
  rw [small64_of h1 h2]; rfl
theorem mul_r {i j : Int} (h1 : -1000000000000 ≤ j) (h2 : j ≤ 1000000000000) : bin2 .mul (.int i) (.int j) = some (.int (i * j)) := by
  show (if (small64 i || small64 j) = true then _ else _) = _
  rw [small64_of h1 h2, Bool.or_true]; rfl
theorem fdiv_l {i j : Int} (h1 : 0 < j) (h2 : j < 1073741824) : bin2 .fdiv (.int i) (.int j) = some (.int (i / j)) := by
  show (if _ then _ else _) = _
  rw [if_pos (by simp [h1, h2])]
theorem mod_l {i j : Int} (h1 : 0 < j) : bin2 .mod (.int i) (.int j) = some (.int (i % j)) := by
  show (if _ then _ else _) = _
  rw [if_pos (by simp [h1])]
theorem add_i (i j : Int) : bin2 .add (.int i) (.int j) = some (.int (i + j)) := rfl
theorem sub_i (i j : Int) : bin2 .sub (.int i) (.int j) = some (.int (i - j)) := rfl
theorem add_t {xs ys : List PV} (h : xs.length + ys.length ≤ 1000000) : bin2 .add (.tup xs) (.tup ys) = some (.tup (xs ++ ys)) := by
  show (if _ then _ else _) = _
  rw [okN_of h]; rfl
theorem add_l {xs ys : List PV} (h : xs.length + ys.length ≤ 1000000) : bin2 .add (.lst xs) (.lst ys) = some (.lst (xs ++ ys)) := by
  show (if _ then _ else _) = _
  rw [okN_of h]; rfl
theorem add_s {xs ys : List Nat} (h : xs.length + ys.length ≤ 1000000) : bin2 .add (.str xs) (.str ys) = some (.str (xs ++ ys)) := by
  show (if _ then _ else _) = _
  rw [okN_of h]; rfl
theorem cond_lst {c : Bool} {xs : List PV} (h : xs.length ≤ 1000000) : (if okN xs.length = true then Res.ok (Val.v (.lst xs)) μ else .no) = Res.ok (Val.v (.lst xs)) μ := by
  rw [okN_of h]; rfl
theorem if_okN {α : Type} {n : Nat} (h : n ≤ 1000000) (x y : Res α) : (if okN n = true then x else y) = x := by
  rw [okN_of h]; rfl
theorem mx (i j : Int) : (if j > i then j else i) = max i j := by
  split <;> omega
theorem mn (i j : Int) : (if j < i then j else i) = min i j := by
  split <;> omega
theorem b_len_l (xs : List PV) : bi1 .len (.lst xs) = some (.int xs.length) := rfl
theorem b_len_t (xs : List PV) : bi1 .len (.tup xs) = some (.int xs.length) := rfl
theorem b_len_s (xs : List Nat) : bi1 .len (.str xs) = if okN xs.length = true then some (.int xs.length) else none := rfl
theorem b_sum (xs : List PV) : bi1 .sum (.lst xs) = (allInt xs).map fun is => .int (sumI is) := rfl
theorem b_all (xs : List PV) : bi1 .all (.lst xs) = (allBl xs).map fun bs => .bl (bs.all id) := rfl
theorem b_any (xs : List PV) : bi1 .any (.lst xs) = (allBl xs).map fun bs => .bl (bs.any id) := rfl
theorem b_tup_l (xs : List PV) : bi1 .tuple (.lst xs) = some (.tup xs) := rfl
theorem b_tup_t (xs : List PV) : bi1 .tuple (.tup xs) = some (.tup xs) := rfl
theorem b_int_b (c : Bool) : bi1 .int (.bl c) = some (.int (if c then 1 else 0)) := rfl
theorem b_int_i (i : Int) : bi1 .int (.int i) = some (.int i) := rfl
theorem b_isI (t : Ty) (p : PV) : bi1 (.isI t) p = some (.bl (isTy t p)) := by cases p <;> rfl
theorem b_sorted {xs : List PV} (h : allAlk xs = true) : bi1 .sorted (.lst xs) = some (.lst (isort xs)) := by
  show (if allAlk xs = true then _ else _) = _
  rw [if_pos h]
theorem max2_i (i j : Int) : bi2 .max2 (.int i) (.int j) = some (.int (max i j)) := by rw [← mx]; rfl
theorem min2_i (i j : Int) : bi2 .min2 (.int i) (.int j) = some (.int (min i j)) := by rw [← mn]; rfl
theorem filter_len {α : Type} (c : α → Bool) (xs : List α) {n : Nat} (h : xs.length ≤ n) : (xs.filter c).length ≤ n := Nat.le_trans (List.length_filter_le ..) h
end
end SW
end
section
set_option maxRecDepth 100000
/-! Draws. -/
namespace K
open SW
variable (k b : Nat) (μ : Mem)
/-! ### draws -/
def spare : Nat → Int → Int
  | 0, v => v
  | n + 1, v => spare n v / 1000003
theorem spare_succ (n : Nat) (v : Int) : spare (n + 1) v = spare n v / 1000003 := by rw [spare]
def cell (ns : List Int) (j : Nat) : Int :=
  if j < ns.length then ns.getD j 0 else if ns = [] then 0 else
    ns.getD (j % ns.length) 0 * 31 + j + spare (min (j / ns.length) 60) (ns.getD (j % ns.length) 0) * 101
def rnd (ns : List Int) (j : Nat) (m : Int) : Int := ((((cell ns j * 1103515245 + 7919 * j + 12345) % 2147483647) ^ 5 % 2147483647) % 999983) % m
theorem rnd_eq (ns : List Int) (j : Nat) (m : Int) : rnd ns j m = ((((cell ns j * 1103515245 + 7919 * j + 12345) % 2147483647) ^ 5 % 2147483647) % 999983) % m := by rw [rnd]
theorem rnd_nn (ns : List Int) (j : Nat) {m : Int} (h : 0 < m) : 0 ≤ rnd ns j m := by
  unfold rnd
  exact Int.emod_nonneg _ (Int.ne_of_gt h)
theorem rnd_lt (ns : List Int) (j : Nat) {m : Int} (h : 0 < m) : rnd ns j m < m := by
  unfold rnd
  exact Int.emod_lt_of_pos _ h
def pS (ns : List Int) : PV := .lst (ns.map PV.int)
theorem at_ints {ns : List Int} {j : Nat} (h : j < ns.length) : atN (ns.map PV.int) (j : Int) = some (.int (ns.getD j 0)) := by
  rw [atN_nat, List.getElem?_map, List.getElem?_eq_getElem h]
  simp [List.getD_eq_getElem?_getD, h]
theorem c_cell_at (ns : List Int) (j : Nat) (hj : j ≤ 1000000) (hn : ns.length ≤ 1000) : callN T (k + 1) .val b .l_cell_at [.v (pS ns), .v (.int j)] μ = .ok (.v (.int (cell ns j))) μ := by
  rw [call_val (np := 2) (nl := 4) (body := b_l_cell_at) rfl rfl]
  unfold cell
  simp -implicitDefEqProofs only [b_l_cell_at, pS, List.map_cons, List.map_nil, List.length_cons, List.length_nil, List.length_map, Nat.reduceSub, Nat.sub_self, Nat.reduceAdd, List.replicate_zero, List.replicate_succ, List.append_nil, List.cons_append, List.nil_append, List.getElem?_cons_zero, List.getElem?_cons_succ, List.set_cons_zero, List.set_cons_succ,
 rbind_ok, rbind_no, sB_cons, sB_nil, andB_nx, andB_ret, s_asg, s_par, s_aug, s_expr, s_ret, s_ite, s_for, lift2_some, asgV, asgP, asgPs, setAll, augV, pure_ap,
 e_var, e_int, e_str, e_bl, e_non, e_cst, e_bin, e_neg, e_cmp, e_cmp2, e_and, e_or, e_not, e_ite, e_tup, e_lst, es_nil', es_cons', flats_nil, flats_cons, e_idx, e_slc, o_none, o_some, optI_int, e_call, e_bi, e_me, e_comp, e_lenSet,
 t_and, t_or, t_not, t_e, truth_b, c_nil, c_cons, i_seq, i_enum, i_zip, i_range1, i_range2, seqT_l, seqT_t, seqT_s, seqS_l, seqS_t, lock_nil, unlock_nil,
 binV_v, add_i, sub_i, cmpV_v, q_eq_i, q_ne_i, q_eq_s, q_ne_s, q_lt, q_le, q_gt, q_ge, q_in_c, q_in_t, q_eq_l, q_ne_l, q_eq_t, q_ne_t, thenC_b, elseC_b, ite_and, ite_or, ite_andT, ite_orT, idxV_t, idxV_l, idxV_s, slcV_t, slcV_l, biV1, biV2, b_len_l, b_len_t, b_all, b_any, b_sum, sumI_eq, b_tup_l, b_tup_t, b_int_b, b_int_i, b_isI, max2_i, min2_i, isTy, endF_ret, endF_nx, List.take_length, List.take_left, wipeL,
 if_true, if_false, ite_true, ite_false, Bool.not_true, Bool.not_false, Bool.true_and, Bool.false_and, Bool.and_true, Bool.and_false, Bool.true_or, Bool.false_or, Bool.or_false, Bool.or_true, Bool.false_eq_true, Bool.not_not, at0, at1, at2, at3, at4, at5, e_own, f_lst, f_dt, f_dk, w_kindA, w_kindE, w_append, w_extend, w_ret, w_cut, w_sorted, w_lenT, reduceIte, reduceCtorEq, decide_true, decide_false,
 stepX_eq, stepY_some, nx_ok, nx_ite, flat_v, compL_fuse, compM_cond, compM_map, compL_nil, compL_cons, consO, allBl_map, allInt_map, any_id, all_id, Option.map_some, rangeL_typed, enum_typed, zip_typed, turn_v, turn_t, app_ite, app_ite0]
  have e1 : decide ((j : Int) < ns.length) = decide (j < ns.length) := by congr 1; simp only [eq_iff_iff]; omega
  rw [e1]
  by_cases h : j < ns.length
  · simp -implicitDefEqProofs only [h, List.map_cons, List.map_nil, List.length_cons, List.length_nil, List.length_map, Nat.reduceSub, Nat.sub_self, Nat.reduceAdd, List.replicate_zero, List.replicate_succ, List.append_nil, List.cons_append, List.nil_append, List.getElem?_cons_zero, List.getElem?_cons_succ, List.set_cons_zero, List.set_cons_succ,
 rbind_ok, rbind_no, sB_cons, sB_nil, andB_nx, andB_ret, s_asg, s_par, s_aug, s_expr, s_ret, s_ite, s_for, lift2_some, asgV, asgP, asgPs, setAll, augV, pure_ap,
 e_var, e_int, e_str, e_bl, e_non, e_cst, e_bin, e_neg, e_cmp, e_cmp2, e_and, e_or, e_not, e_ite, e_tup, e_lst, es_nil', es_cons', flats_nil, flats_cons, e_idx, e_slc, o_none, o_some, optI_int, e_call, e_bi, e_me, e_comp, e_lenSet,
 t_and, t_or, t_not, t_e, truth_b, c_nil, c_cons, i_seq, i_enum, i_zip, i_range1, i_range2, seqT_l, seqT_t, seqT_s, seqS_l, seqS_t, lock_nil, unlock_nil,
 binV_v, add_i, sub_i, cmpV_v, q_eq_i, q_ne_i, q_eq_s, q_ne_s, q_lt, q_le, q_gt, q_ge, q_in_c, q_in_t, q_eq_l, q_ne_l, q_eq_t, q_ne_t, thenC_b, elseC_b, ite_and, ite_or, ite_andT, ite_orT, idxV_t, idxV_l, idxV_s, slcV_t, slcV_l, biV1, biV2, b_len_l, b_len_t, b_all, b_any, b_sum, sumI_eq, b_tup_l, b_tup_t, b_int_b, b_int_i, b_isI, max2_i, min2_i, isTy, endF_ret, endF_nx, List.take_length, List.take_left, wipeL,
 if_true, if_false, ite_true, ite_false, Bool.not_true, Bool.not_false, Bool.true_and, Bool.false_and, Bool.and_true, Bool.and_false, Bool.true_or, Bool.false_or, Bool.or_false, Bool.or_true, Bool.false_eq_true, Bool.not_not, at0, at1, at2, at3, at4, at5, e_own, f_lst, f_dt, f_dk, w_kindA, w_kindE, w_append, w_extend, w_ret, w_cut, w_sorted, w_lenT, reduceIte, reduceCtorEq, decide_true, decide_false,
 stepX_eq, stepY_some, nx_ok, nx_ite, flat_v, compL_fuse, compM_cond, compM_map, compL_nil, compL_cons, consO, allBl_map, allInt_map, any_id, all_id, Option.map_some, rangeL_typed, enum_typed, zip_typed, turn_v, turn_t, app_ite, app_ite0, at_ints h]
  · simp -implicitDefEqProofs only [h, List.map_cons, List.map_nil, List.length_cons, List.length_nil, List.length_map, Nat.reduceSub, Nat.sub_self, Nat.reduceAdd, List.replicate_zero, List.replicate_succ, List.append_nil, List.cons_append, List.nil_append, List.getElem?_cons_zero, List.getElem?_cons_succ, List.set_cons_zero, List.set_cons_succ,
 rbind_ok, rbind_no, sB_cons, sB_nil, andB_nx, andB_ret, s_asg, s_par, s_aug, s_expr, s_ret, s_ite, s_for, lift2_some, asgV, asgP, asgPs, setAll, augV, pure_ap,
 e_var, e_int, e_str, e_bl, e_non, e_cst, e_bin, e_neg, e_cmp, e_cmp2, e_and, e_or, e_not, e_ite, e_tup, e_lst, es_nil', es_cons', flats_nil, flats_cons, e_idx, e_slc, o_none, o_some, optI_int, e_call, e_bi, e_me, e_comp, e_lenSet,
 t_and, t_or, t_not, t_e, truth_b, c_nil, c_cons, i_seq, i_enum, i_zip, i_range1, i_range2, seqT_l, seqT_t, seqT_s, seqS_l, seqS_t, lock_nil, unlock_nil,
 binV_v, add_i, sub_i, cmpV_v, q_eq_i, q_ne_i, q_eq_s, q_ne_s, q_lt, q_le, q_gt, q_ge, q_in_c, q_in_t, q_eq_l, q_ne_l, q_eq_t, q_ne_t, thenC_b, elseC_b, ite_and, ite_or, ite_andT, ite_orT, idxV_t, idxV_l, idxV_s, slcV_t, slcV_l, biV1, biV2, b_len_l, b_len_t, b_all, b_any, b_sum, sumI_eq, b_tup_l, b_tup_t, b_int_b, b_int_i, b_isI, max2_i, min2_i, isTy, endF_ret, endF_nx, List.take_length, List.take_left, wipeL,
 if_true, if_false, ite_true, ite_false, Bool.not_true, Bool.not_false, Bool.true_and, Bool.false_and, Bool.and_true, Bool.and_false, Bool.true_or, Bool.false_or, Bool.or_false, Bool.or_true, Bool.false_eq_true, Bool.not_not, at0, at1, at2, at3, at4, at5, e_own, f_lst, f_dt, f_dk, w_kindA, w_kindE, w_append, w_extend, w_ret, w_cut, w_sorted, w_lenT, reduceIte, reduceCtorEq, decide_true, decide_false,
 stepX_eq, stepY_some, nx_ok, nx_ite, flat_v, compL_fuse, compM_cond, compM_map, compL_nil, compL_cons, consO, allBl_map, allInt_map, any_id, all_id, Option.map_some, rangeL_typed, enum_typed, zip_typed, turn_v, turn_t, app_ite, app_ite0]
    have e2 : (ns.map PV.int).isEmpty = decide (ns = []) := by cases ns <;> rfl
    rw [e2]
    by_cases h' : ns = []
    · simp -implicitDefEqProofs only [h', List.map_cons, List.map_nil, List.length_cons, List.length_nil, List.length_map, Nat.reduceSub, Nat.sub_self, Nat.reduceAdd, List.replicate_zero, List.replicate_succ, List.append_nil, List.cons_append, List.nil_append, List.getElem?_cons_zero, List.getElem?_cons_succ, List.set_cons_zero, List.set_cons_succ,
 rbind_ok, rbind_no, sB_cons, sB_nil, andB_nx, andB_ret, s_asg, s_par, s_aug, s_expr, s_ret, s_ite, s_for, lift2_some, asgV, asgP, asgPs, setAll, augV, pure_ap,
 e_var, e_int, e_str, e_bl, e_non, e_cst, e_bin, e_neg, e_cmp, e_cmp2, e_and, e_or, e_not, e_ite, e_tup, e_lst, es_nil', es_cons', flats_nil, flats_cons, e_idx, e_slc, o_none, o_some, optI_int, e_call, e_bi, e_me, e_comp, e_lenSet,
 t_and, t_or, t_not, t_e, truth_b, c_nil, c_cons, i_seq, i_enum, i_zip, i_range1, i_range2, seqT_l, seqT_t, seqT_s, seqS_l, seqS_t, lock_nil, unlock_nil,
 binV_v, add_i, sub_i, cmpV_v, q_eq_i, q_ne_i, q_eq_s, q_ne_s, q_lt, q_le, q_gt, q_ge, q_in_c, q_in_t, q_eq_l, q_ne_l, q_eq_t, q_ne_t, thenC_b, elseC_b, ite_and, ite_or, ite_andT, ite_orT, idxV_t, idxV_l, idxV_s, slcV_t, slcV_l, biV1, biV2, b_len_l, b_len_t, b_all, b_any, b_sum, sumI_eq, b_tup_l, b_tup_t, b_int_b, b_int_i, b_isI, max2_i, min2_i, isTy, endF_ret, endF_nx, List.take_length, List.take_left, wipeL,
 if_true, if_false, ite_true, ite_false, Bool.not_true, Bool.not_false, Bool.true_and, Bool.false_and, Bool.and_true, Bool.and_false, Bool.true_or, Bool.false_or, Bool.or_false, Bool.or_true, Bool.false_eq_true, Bool.not_not, at0, at1, at2, at3, at4, at5, e_own, f_lst, f_dt, f_dk, w_kindA, w_kindE, w_append, w_extend, w_ret, w_cut, w_sorted, w_lenT, reduceIte, reduceCtorEq, decide_true, decide_false,
 stepX_eq, stepY_some, nx_ok, nx_ite, flat_v, compL_fuse, compM_cond, compM_map, compL_nil, compL_cons, consO, allBl_map, allInt_map, any_id, all_id, Option.map_some, rangeL_typed, enum_typed, zip_typed, turn_v, turn_t, app_ite, app_ite0]
    · have hpos : 0 < ns.length := List.length_pos_iff.mpr h'
      have e3 : ((j : Int) % ns.length) = ((j % ns.length : Nat) : Int) := by omega
      have e4 : ((j : Int) / ns.length) = ((j / ns.length : Nat) : Int) := by omega
      have e5 : j % ns.length < ns.length := Nat.mod_lt _ hpos
      have e6 : min ((j / ns.length : Nat) : Int) 60 = ((min (j / ns.length) 60 : Nat) : Int) := by omega
      simp -implicitDefEqProofs only [h', List.map_cons, List.map_nil, List.length_cons, List.length_nil, List.length_map, Nat.reduceSub, Nat.sub_self, Nat.reduceAdd, List.replicate_zero, List.replicate_succ, List.append_nil, List.cons_append, List.nil_append, List.getElem?_cons_zero, List.getElem?_cons_succ, List.set_cons_zero, List.set_cons_succ,
 rbind_ok, rbind_no, sB_cons, sB_nil, andB_nx, andB_ret, s_asg, s_par, s_aug, s_expr, s_ret, s_ite, s_for, lift2_some, asgV, asgP, asgPs, setAll, augV, pure_ap,
 e_var, e_int, e_str, e_bl, e_non, e_cst, e_bin, e_neg, e_cmp, e_cmp2, e_and, e_or, e_not, e_ite, e_tup, e_lst, es_nil', es_cons', flats_nil, flats_cons, e_idx, e_slc, o_none, o_some, optI_int, e_call, e_bi, e_me, e_comp, e_lenSet,
 t_and, t_or, t_not, t_e, truth_b, c_nil, c_cons, i_seq, i_enum, i_zip, i_range1, i_range2, seqT_l, seqT_t, seqT_s, seqS_l, seqS_t, lock_nil, unlock_nil,
 binV_v, add_i, sub_i, cmpV_v, q_eq_i, q_ne_i, q_eq_s, q_ne_s, q_lt, q_le, q_gt, q_ge, q_in_c, q_in_t, q_eq_l, q_ne_l, q_eq_t, q_ne_t, thenC_b, elseC_b, ite_and, ite_or, ite_andT, ite_orT, idxV_t, idxV_l, idxV_s, slcV_t, slcV_l, biV1, biV2, b_len_l, b_len_t, b_all, b_any, b_sum, sumI_eq, b_tup_l, b_tup_t, b_int_b, b_int_i, b_isI, max2_i, min2_i, isTy, endF_ret, endF_nx, List.take_length, List.take_left, wipeL,
 if_true, if_false, ite_true, ite_false, Bool.not_true, Bool.not_false, Bool.true_and, Bool.false_and, Bool.and_true, Bool.and_false, Bool.true_or, Bool.false_or, Bool.or_false, Bool.or_true, Bool.false_eq_true, Bool.not_not, at0, at1, at2, at3, at4, at5, e_own, f_lst, f_dt, f_dk, w_kindA, w_kindE, w_append, w_extend, w_ret, w_cut, w_sorted, w_lenT, reduceIte, reduceCtorEq, decide_true, decide_false,
 stepX_eq, stepY_some, nx_ok, nx_ite, flat_v, compL_fuse, compM_cond, compM_map, compL_nil, compL_cons, consO, allBl_map, allInt_map, any_id, all_id, Option.map_some, rangeL_typed, enum_typed, zip_typed, turn_v, turn_t, app_ite, app_ite0, mod_l (j := ns.length) (by omega), fdiv_l (j := ns.length) (by omega) (by omega), e3, e4, at_ints e5, e6]
      generalize hm : min (j / ns.length) 60 = m
      rw [rng1_i ⟨by omega, by omega⟩]
      simp -implicitDefEqProofs only [List.map_cons, List.map_nil, List.length_cons, List.length_nil, List.length_map, Nat.reduceSub, Nat.sub_self, Nat.reduceAdd, List.replicate_zero, List.replicate_succ, List.append_nil, List.cons_append, List.nil_append, List.getElem?_cons_zero, List.getElem?_cons_succ, List.set_cons_zero, List.set_cons_succ,
 rbind_ok, rbind_no, sB_cons, sB_nil, andB_nx, andB_ret, s_asg, s_par, s_aug, s_expr, s_ret, s_ite, s_for, lift2_some, asgV, asgP, asgPs, setAll, augV, pure_ap,
 e_var, e_int, e_str, e_bl, e_non, e_cst, e_bin, e_neg, e_cmp, e_cmp2, e_and, e_or, e_not, e_ite, e_tup, e_lst, es_nil', es_cons', flats_nil, flats_cons, e_idx, e_slc, o_none, o_some, optI_int, e_call, e_bi, e_me, e_comp, e_lenSet,
 t_and, t_or, t_not, t_e, truth_b, c_nil, c_cons, i_seq, i_enum, i_zip, i_range1, i_range2, seqT_l, seqT_t, seqT_s, seqS_l, seqS_t, lock_nil, unlock_nil,
 binV_v, add_i, sub_i, cmpV_v, q_eq_i, q_ne_i, q_eq_s, q_ne_s, q_lt, q_le, q_gt, q_ge, q_in_c, q_in_t, q_eq_l, q_ne_l, q_eq_t, q_ne_t, thenC_b, elseC_b, ite_and, ite_or, ite_andT, ite_orT, idxV_t, idxV_l, idxV_s, slcV_t, slcV_l, biV1, biV2, b_len_l, b_len_t, b_all, b_any, b_sum, sumI_eq, b_tup_l, b_tup_t, b_int_b, b_int_i, b_isI, max2_i, min2_i, isTy, endF_ret, endF_nx, List.take_length, List.take_left, wipeL,
 if_true, if_false, ite_true, ite_false, Bool.not_true, Bool.not_false, Bool.true_and, Bool.false_and, Bool.and_true, Bool.and_false, Bool.true_or, Bool.false_or, Bool.or_false, Bool.or_true, Bool.false_eq_true, Bool.not_not, at0, at1, at2, at3, at4, at5, e_own, f_lst, f_dt, f_dk, w_kindA, w_kindE, w_append, w_extend, w_ret, w_cut, w_sorted, w_lenT, reduceIte, reduceCtorEq, decide_true, decide_false,
 stepX_eq, stepY_some, nx_ok, nx_ite, flat_v, compL_fuse, compM_cond, compM_map, compL_nil, compL_cons, consO, allBl_map, allInt_map, any_id, all_id, Option.map_some, rangeL_typed, enum_typed, zip_typed, turn_v, turn_t, app_ite, app_ite0, Int.toNat_natCast]
      generalize hX : forL _ _ _ _ = X
      have Z := for2 hX 2 3 (fun pre v _ ν => ν = μ ∧ v = some (.v (.int (spare pre.length (ns.getD (j % ns.length) 0))))) ⟨_, _, rfl, rfl, rfl, rfl⟩ ?_
      · obtain ⟨v, w, ν, rfl, rfl, rfl⟩ := Z
        simp -implicitDefEqProofs only [List.map_cons, List.map_nil, List.length_cons, List.length_nil, List.length_map, Nat.reduceSub, Nat.sub_self, Nat.reduceAdd, List.replicate_zero, List.replicate_succ, List.append_nil, List.cons_append, List.nil_append, List.getElem?_cons_zero, List.getElem?_cons_succ, List.set_cons_zero, List.set_cons_succ,
 rbind_ok, rbind_no, sB_cons, sB_nil, andB_nx, andB_ret, s_asg, s_par, s_aug, s_expr, s_ret, s_ite, s_for, lift2_some, asgV, asgP, asgPs, setAll, augV, pure_ap,
 e_var, e_int, e_str, e_bl, e_non, e_cst, e_bin, e_neg, e_cmp, e_cmp2, e_and, e_or, e_not, e_ite, e_tup, e_lst, es_nil', es_cons', flats_nil, flats_cons, e_idx, e_slc, o_none, o_some, optI_int, e_call, e_bi, e_me, e_comp, e_lenSet,
 t_and, t_or, t_not, t_e, truth_b, c_nil, c_cons, i_seq, i_enum, i_zip, i_range1, i_range2, seqT_l, seqT_t, seqT_s, seqS_l, seqS_t, lock_nil, unlock_nil,
 binV_v, add_i, sub_i, cmpV_v, q_eq_i, q_ne_i, q_eq_s, q_ne_s, q_lt, q_le, q_gt, q_ge, q_in_c, q_in_t, q_eq_l, q_ne_l, q_eq_t, q_ne_t, thenC_b, elseC_b, ite_and, ite_or, ite_andT, ite_orT, idxV_t, idxV_l, idxV_s, slcV_t, slcV_l, biV1, biV2, b_len_l, b_len_t, b_all, b_any, b_sum, sumI_eq, b_tup_l, b_tup_t, b_int_b, b_int_i, b_isI, max2_i, min2_i, isTy, endF_ret, endF_nx, List.take_length, List.take_left, wipeL,
 if_true, if_false, ite_true, ite_false, Bool.not_true, Bool.not_false, Bool.true_and, Bool.false_and, Bool.and_true, Bool.and_false, Bool.true_or, Bool.false_or, Bool.or_false, Bool.or_true, Bool.false_eq_true, Bool.not_not, at0, at1, at2, at3, at4, at5, e_own, f_lst, f_dt, f_dk, w_kindA, w_kindE, w_append, w_extend, w_ret, w_cut, w_sorted, w_lenT, reduceIte, reduceCtorEq, decide_true, decide_false,
 stepX_eq, stepY_some, nx_ok, nx_ite, flat_v, compL_fuse, compM_cond, compM_map, compL_nil, compL_cons, consO, allBl_map, allInt_map, any_id, all_id, Option.map_some, rangeL_typed, enum_typed, zip_typed, turn_v, turn_t, app_ite, app_ite0, mod_l (j := ns.length) (by omega), e3, at_ints e5, mul_r (j := 31) (by omega) (by omega), mul_r (j := 101) (by omega) (by omega), List.length_range]
      · rintro pre x post v w ν hp ⟨rfl, rfl⟩
        simp -implicitDefEqProofs only [List.map_cons, List.map_nil, List.length_cons, List.length_nil, List.length_map, Nat.reduceSub, Nat.sub_self, Nat.reduceAdd, List.replicate_zero, List.replicate_succ, List.append_nil, List.cons_append, List.nil_append, List.getElem?_cons_zero, List.getElem?_cons_succ, List.set_cons_zero, List.set_cons_succ,
 rbind_ok, rbind_no, sB_cons, sB_nil, andB_nx, andB_ret, s_asg, s_par, s_aug, s_expr, s_ret, s_ite, s_for, lift2_some, asgV, asgP, asgPs, setAll, augV, pure_ap,
 e_var, e_int, e_str, e_bl, e_non, e_cst, e_bin, e_neg, e_cmp, e_cmp2, e_and, e_or, e_not, e_ite, e_tup, e_lst, es_nil', es_cons', flats_nil, flats_cons, e_idx, e_slc, o_none, o_some, optI_int, e_call, e_bi, e_me, e_comp, e_lenSet,
 t_and, t_or, t_not, t_e, truth_b, c_nil, c_cons, i_seq, i_enum, i_zip, i_range1, i_range2, seqT_l, seqT_t, seqT_s, seqS_l, seqS_t, lock_nil, unlock_nil,
 binV_v, add_i, sub_i, cmpV_v, q_eq_i, q_ne_i, q_eq_s, q_ne_s, q_lt, q_le, q_gt, q_ge, q_in_c, q_in_t, q_eq_l, q_ne_l, q_eq_t, q_ne_t, thenC_b, elseC_b, ite_and, ite_or, ite_andT, ite_orT, idxV_t, idxV_l, idxV_s, slcV_t, slcV_l, biV1, biV2, b_len_l, b_len_t, b_all, b_any, b_sum, sumI_eq, b_tup_l, b_tup_t, b_int_b, b_int_i, b_isI, max2_i, min2_i, isTy, endF_ret, endF_nx, List.take_length, List.take_left, wipeL,
 if_true, if_false, ite_true, ite_false, Bool.not_true, Bool.not_false, Bool.true_and, Bool.false_and, Bool.and_true, Bool.and_false, Bool.true_or, Bool.false_or, Bool.or_false, Bool.or_true, Bool.false_eq_true, Bool.not_not, at0, at1, at2, at3, at4, at5, e_own, f_lst, f_dt, f_dk, w_kindA, w_kindE, w_append, w_extend, w_ret, w_cut, w_sorted, w_lenT, reduceIte, reduceCtorEq, decide_true, decide_false,
 stepX_eq, stepY_some, nx_ok, nx_ite, flat_v, compL_fuse, compM_cond, compM_map, compL_nil, compL_cons, consO, allBl_map, allInt_map, any_id, all_id, Option.map_some, rangeL_typed, enum_typed, zip_typed, turn_v, turn_t, app_ite, app_ite0, fdiv_l (j := 1000003) (by omega) (by omega)]
        exact ⟨_, _, _, rfl, rfl, by rw [List.length_append, List.length_singleton, spare_succ]⟩
theorem pow5 {i : Int} (h1 : 0 ≤ i) (h2 : i < 2147483647) : bin2 .pow (.int i) (.int 5) = some (.int (i ^ 5)) := by
  show (if (decide (0 ≤ (5 : Int)) && decide ((5 : Int) ≤ 1000) && small64 i) = true then some (PV.int (i ^ (5 : Int).toNat)) else none) = _
  rw [small64_of (by omega) (by omega), if_pos (by decide)]
  rfl
theorem c_mixed (ns : List Int) (j : Nat) (m : Int) (hj : j ≤ 1000000) (hn : ns.length ≤ 1000) (hm : 0 < m) : callN T (k + 2) .val b .l_mixed [.v (pS ns), .v (.int j), .v (.int m)] μ = .ok (.v (.int (rnd ns j m))) μ := by
  rw [call_val (np := 3) (nl := 4) (body := b_l_mixed) rfl rfl]
  have c := fun ν => c_cell_at k μ.length ν ns j hj hn
  simp -implicitDefEqProofs only [b_l_mixed, List.map_cons, List.map_nil, List.length_cons, List.length_nil, List.length_map, Nat.reduceSub, Nat.sub_self, Nat.reduceAdd, List.replicate_zero, List.replicate_succ, List.append_nil, List.cons_append, List.nil_append, List.getElem?_cons_zero, List.getElem?_cons_succ, List.set_cons_zero, List.set_cons_succ,
 rbind_ok, rbind_no, sB_cons, sB_nil, andB_nx, andB_ret, s_asg, s_par, s_aug, s_expr, s_ret, s_ite, s_for, lift2_some, asgV, asgP, asgPs, setAll, augV, pure_ap,
 e_var, e_int, e_str, e_bl, e_non, e_cst, e_bin, e_neg, e_cmp, e_cmp2, e_and, e_or, e_not, e_ite, e_tup, e_lst, es_nil', es_cons', flats_nil, flats_cons, e_idx, e_slc, o_none, o_some, optI_int, e_call, e_bi, e_me, e_comp, e_lenSet,
 t_and, t_or, t_not, t_e, truth_b, c_nil, c_cons, i_seq, i_enum, i_zip, i_range1, i_range2, seqT_l, seqT_t, seqT_s, seqS_l, seqS_t, lock_nil, unlock_nil,
 binV_v, add_i, sub_i, cmpV_v, q_eq_i, q_ne_i, q_eq_s, q_ne_s, q_lt, q_le, q_gt, q_ge, q_in_c, q_in_t, q_eq_l, q_ne_l, q_eq_t, q_ne_t, thenC_b, elseC_b, ite_and, ite_or, ite_andT, ite_orT, idxV_t, idxV_l, idxV_s, slcV_t, slcV_l, biV1, biV2, b_len_l, b_len_t, b_all, b_any, b_sum, sumI_eq, b_tup_l, b_tup_t, b_int_b, b_int_i, b_isI, max2_i, min2_i, isTy, endF_ret, endF_nx, List.take_length, List.take_left, wipeL,
 if_true, if_false, ite_true, ite_false, Bool.not_true, Bool.not_false, Bool.true_and, Bool.false_and, Bool.and_true, Bool.and_false, Bool.true_or, Bool.false_or, Bool.or_false, Bool.or_true, Bool.false_eq_true, Bool.not_not, at0, at1, at2, at3, at4, at5, e_own, f_lst, f_dt, f_dk, w_kindA, w_kindE, w_append, w_extend, w_ret, w_cut, w_sorted, w_lenT, reduceIte, reduceCtorEq, decide_true, decide_false,
 stepX_eq, stepY_some, nx_ok, nx_ite, flat_v, compL_fuse, compM_cond, compM_map, compL_nil, compL_cons, consO, allBl_map, allInt_map, any_id, all_id, Option.map_some, rangeL_typed, enum_typed, zip_typed, turn_v, turn_t, app_ite, app_ite0, c, mul_r (j := 1103515245) (by omega) (by omega), mul_l (i := 7919) (by omega) (by omega), mod_l (j := 2147483647) (by omega), mod_l (j := 999983) (by omega)]
  have h1 := Int.emod_nonneg (cell ns j * 1103515245 + 7919 * j + 12345) (b := 2147483647) (by omega)
  have h2 := Int.emod_lt_of_pos (cell ns j * 1103515245 + 7919 * j + 12345) (b := 2147483647) (by omega)
  simp -implicitDefEqProofs only [pow5 h1 h2, List.map_cons, List.map_nil, List.length_cons, List.length_nil, List.length_map, Nat.reduceSub, Nat.sub_self, Nat.reduceAdd, List.replicate_zero, List.replicate_succ, List.append_nil, List.cons_append, List.nil_append, List.getElem?_cons_zero, List.getElem?_cons_succ, List.set_cons_zero, List.set_cons_succ,
 rbind_ok, rbind_no, sB_cons, sB_nil, andB_nx, andB_ret, s_asg, s_par, s_aug, s_expr, s_ret, s_ite, s_for, lift2_some, asgV, asgP, asgPs, setAll, augV, pure_ap,
 e_var, e_int, e_str, e_bl, e_non, e_cst, e_bin, e_neg, e_cmp, e_cmp2, e_and, e_or, e_not, e_ite, e_tup, e_lst, es_nil', es_cons', flats_nil, flats_cons, e_idx, e_slc, o_none, o_some, optI_int, e_call, e_bi, e_me, e_comp, e_lenSet,
 t_and, t_or, t_not, t_e, truth_b, c_nil, c_cons, i_seq, i_enum, i_zip, i_range1, i_range2, seqT_l, seqT_t, seqT_s, seqS_l, seqS_t, lock_nil, unlock_nil,
 binV_v, add_i, sub_i, cmpV_v, q_eq_i, q_ne_i, q_eq_s, q_ne_s, q_lt, q_le, q_gt, q_ge, q_in_c, q_in_t, q_eq_l, q_ne_l, q_eq_t, q_ne_t, thenC_b, elseC_b, ite_and, ite_or, ite_andT, ite_orT, idxV_t, idxV_l, idxV_s, slcV_t, slcV_l, biV1, biV2, b_len_l, b_len_t, b_all, b_any, b_sum, sumI_eq, b_tup_l, b_tup_t, b_int_b, b_int_i, b_isI, max2_i, min2_i, isTy, endF_ret, endF_nx, List.take_length, List.take_left, wipeL,
 if_true, if_false, ite_true, ite_false, Bool.not_true, Bool.not_false, Bool.true_and, Bool.false_and, Bool.and_true, Bool.and_false, Bool.true_or, Bool.false_or, Bool.or_false, Bool.or_true, Bool.false_eq_true, Bool.not_not, at0, at1, at2, at3, at4, at5, e_own, f_lst, f_dt, f_dk, w_kindA, w_kindE, w_append, w_extend, w_ret, w_cut, w_sorted, w_lenT, reduceIte, reduceCtorEq, decide_true, decide_false,
 stepX_eq, stepY_some, nx_ok, nx_ite, flat_v, compL_fuse, compM_cond, compM_map, compL_nil, compL_cons, consO, allBl_map, allInt_map, any_id, all_id, Option.map_some, rangeL_typed, enum_typed, zip_typed, turn_v, turn_t, app_ite, app_ite0, mod_l (j := 2147483647) (by omega), mod_l (j := 999983) (by omega), mod_l hm, rnd_eq]
/-- so many draws were drawn -/
def tw (n : Nat) : MO := .lst (List.replicate n (.int 0))
theorem h_view (xs : List PV) : view (.o 0) (MO.lst xs :: μ) = .ok (.lst xs) (MO.lst xs :: μ) := rfl
theorem h_kindA (xs : List PV) : kindM .append (.o 0) (MO.lst xs :: μ) = .ok () (MO.lst xs :: μ) := rfl
theorem h_append (xs : List PV) (p : PV) : meV .append (.o 0) [.v p] (MO.lst xs :: μ) = if okN (xs.length + 1) = true then .ok (.v .non) (MO.lst (xs ++ [p]) :: μ) else .no := by
  show lstO (.o 0) (fun n xs => if okN (xs.length + 1) then setL n (xs ++ [p]) .non else no) (MO.lst xs :: μ) = _
  show (if okN (xs.length + 1) then setL 0 (xs ++ [p]) .non else no : M Val) (MO.lst xs :: μ) = _
  cases okN (xs.length + 1) <;> rfl
theorem h_len (xs : List PV) : biV .len [.o 0] (MO.lst xs :: μ) = .ok (.v (.int xs.length)) (MO.lst xs :: μ) := rfl
theorem c_draw (ns : List Int) (hn : ns.length ≤ 1000) (n : Nat) (h : n ≤ 900000) (m : Int) (hm : 0 < m) : callN T (k + 3) .val b .l_draw [.v (pS ns), .o 0, .v (.int m)] (tw n :: μ) = .ok (.v (.int (rnd ns (n + 1) m))) (tw (n + 1) :: μ) := by
  rw [call_val (np := 3) (nl := 3) (body := b_l_draw) rfl rfl]
  have hl : (List.replicate n (PV.int 0)).length = n := List.length_replicate
  have hk : okN (n + 1) = true := okN_of (by omega)
  have c := fun c ν => c_mixed k c ν ns (n + 1) m (by omega) hn hm
  have e2 : List.replicate n (PV.int 0) ++ [PV.int 0] = List.replicate (n + 1) (.int 0) := by rw [List.replicate_succ']
  simp -implicitDefEqProofs only [b_l_draw, tw, List.map_cons, List.map_nil, List.length_cons, List.length_nil, List.length_map, Nat.reduceSub, Nat.sub_self, Nat.reduceAdd, List.replicate_zero, List.replicate_succ, List.append_nil, List.cons_append, List.nil_append, List.getElem?_cons_zero, List.getElem?_cons_succ, List.set_cons_zero, List.set_cons_succ,
 rbind_ok, rbind_no, sB_cons, sB_nil, andB_nx, andB_ret, s_asg, s_par, s_aug, s_expr, s_ret, s_ite, s_for, lift2_some, asgV, asgP, asgPs, setAll, augV, pure_ap,
 e_var, e_int, e_str, e_bl, e_non, e_cst, e_bin, e_neg, e_cmp, e_cmp2, e_and, e_or, e_not, e_ite, e_tup, e_lst, es_nil', es_cons', flats_nil, flats_cons, e_idx, e_slc, o_none, o_some, optI_int, e_call, e_bi, e_me, e_comp, e_lenSet,
 t_and, t_or, t_not, t_e, truth_b, c_nil, c_cons, i_seq, i_enum, i_zip, i_range1, i_range2, seqT_l, seqT_t, seqT_s, seqS_l, seqS_t, lock_nil, unlock_nil,
 binV_v, add_i, sub_i, cmpV_v, q_eq_i, q_ne_i, q_eq_s, q_ne_s, q_lt, q_le, q_gt, q_ge, q_in_c, q_in_t, q_eq_l, q_ne_l, q_eq_t, q_ne_t, thenC_b, elseC_b, ite_and, ite_or, ite_andT, ite_orT, idxV_t, idxV_l, idxV_s, slcV_t, slcV_l, biV1, biV2, b_len_l, b_len_t, b_all, b_any, b_sum, sumI_eq, b_tup_l, b_tup_t, b_int_b, b_int_i, b_isI, max2_i, min2_i, isTy, endF_ret, endF_nx, List.take_length, List.take_left, wipeL,
 if_true, if_false, ite_true, ite_false, Bool.not_true, Bool.not_false, Bool.true_and, Bool.false_and, Bool.and_true, Bool.and_false, Bool.true_or, Bool.false_or, Bool.or_false, Bool.or_true, Bool.false_eq_true, Bool.not_not, at0, at1, at2, at3, at4, at5, e_own, f_lst, f_dt, f_dk, w_kindA, w_kindE, w_append, w_extend, w_ret, w_cut, w_sorted, w_lenT, reduceIte, reduceCtorEq, decide_true, decide_false,
 stepX_eq, stepY_some, nx_ok, nx_ite, flat_v, compL_fuse, compM_cond, compM_map, compL_nil, compL_cons, consO, allBl_map, allInt_map, any_id, all_id, Option.map_some, rangeL_typed, enum_typed, zip_typed, turn_v, turn_t, app_ite, app_ite0, h_kindA, h_append, h_len, hl, hk, e2]
  simp -implicitDefEqProofs only [List.length_replicate, List.length_append, List.length_cons, List.length_nil, Nat.zero_add, c, List.map_cons, List.map_nil, List.length_cons, List.length_nil, List.length_map, Nat.reduceSub, Nat.sub_self, Nat.reduceAdd, List.replicate_zero, List.replicate_succ, List.append_nil, List.cons_append, List.nil_append, List.getElem?_cons_zero, List.getElem?_cons_succ, List.set_cons_zero, List.set_cons_succ,
 rbind_ok, rbind_no, sB_cons, sB_nil, andB_nx, andB_ret, s_asg, s_par, s_aug, s_expr, s_ret, s_ite, s_for, lift2_some, asgV, asgP, asgPs, setAll, augV, pure_ap,
 e_var, e_int, e_str, e_bl, e_non, e_cst, e_bin, e_neg, e_cmp, e_cmp2, e_and, e_or, e_not, e_ite, e_tup, e_lst, es_nil', es_cons', flats_nil, flats_cons, e_idx, e_slc, o_none, o_some, optI_int, e_call, e_bi, e_me, e_comp, e_lenSet,
 t_and, t_or, t_not, t_e, truth_b, c_nil, c_cons, i_seq, i_enum, i_zip, i_range1, i_range2, seqT_l, seqT_t, seqT_s, seqS_l, seqS_t, lock_nil, unlock_nil,
 binV_v, add_i, sub_i, cmpV_v, q_eq_i, q_ne_i, q_eq_s, q_ne_s, q_lt, q_le, q_gt, q_ge, q_in_c, q_in_t, q_eq_l, q_ne_l, q_eq_t, q_ne_t, thenC_b, elseC_b, ite_and, ite_or, ite_andT, ite_orT, idxV_t, idxV_l, idxV_s, slcV_t, slcV_l, biV1, biV2, b_len_l, b_len_t, b_all, b_any, b_sum, sumI_eq, b_tup_l, b_tup_t, b_int_b, b_int_i, b_isI, max2_i, min2_i, isTy, endF_ret, endF_nx, List.take_length, List.take_left, wipeL,
 if_true, if_false, ite_true, ite_false, Bool.not_true, Bool.not_false, Bool.true_and, Bool.false_and, Bool.and_true, Bool.and_false, Bool.true_or, Bool.false_or, Bool.or_false, Bool.or_true, Bool.false_eq_true, Bool.not_not, at0, at1, at2, at3, at4, at5, e_own, f_lst, f_dt, f_dk, w_kindA, w_kindE, w_append, w_extend, w_ret, w_cut, w_sorted, w_lenT, reduceIte, reduceCtorEq, decide_true, decide_false,
 stepX_eq, stepY_some, nx_ok, nx_ite, flat_v, compL_fuse, compM_cond, compM_map, compL_nil, compL_cons, consO, allBl_map, allInt_map, any_id, all_id, Option.map_some, rangeL_typed, enum_typed, zip_typed, turn_v, turn_t, app_ite, app_ite0, List.take_succ_cons]
/-- a draw that stays in its bounds -/
theorem c_pick_at (ns : List Int) (hn : ns.length ≤ 1000) (n : Nat) (h : n ≤ 900000) (xs : List PV) (hx : xs ≠ []) : ∃ x ∈ xs, ∀ k b μ, callN T (k + 4) .val b .l_pick [.v (pS ns), .o 0, .v (.lst xs)] (tw n :: μ) = .ok (.v x) (tw (n + 1) :: μ) ∧ callN T (k + 4) .val b .l_pick [.v (pS ns), .o 0, .v (.tup xs)] (tw n :: μ) = .ok (.v x) (tw (n + 1) :: μ) := by
  have hp : (0 : Int) < xs.length := by have := List.length_pos_iff.mpr hx; omega
  have h1 := rnd_nn ns (n + 1) hp
  have h2 := rnd_lt ns (n + 1) hp
  have h3 : (rnd ns (n + 1) xs.length).toNat < xs.length := by omega
  refine ⟨xs[(rnd ns (n + 1) xs.length).toNat], List.getElem_mem h3, fun k b μ => ?_⟩
  have h4 : atN xs (rnd ns (n + 1) xs.length) = some xs[(rnd ns (n + 1) xs.length).toNat] := by
    unfold atN
    rw [if_pos h1, List.getElem?_eq_getElem h3]
  have c := fun c ν => c_draw k c ν ns hn n h xs.length hp
  have e : ∀ (z : MO) (r : Mem), (z :: r).take (μ.length + 1) = z :: r.take μ.length := fun _ _ => rfl
  constructor
  · rw [call_val (np := 3) (nl := 3) (body := b_l_pick) rfl rfl]
    simp -implicitDefEqProofs only [b_l_pick, List.map_cons, List.map_nil, List.length_cons, List.length_nil, List.length_map, Nat.reduceSub, Nat.sub_self, Nat.reduceAdd, List.replicate_zero, List.replicate_succ, List.append_nil, List.cons_append, List.nil_append, List.getElem?_cons_zero, List.getElem?_cons_succ, List.set_cons_zero, List.set_cons_succ,
 rbind_ok, rbind_no, sB_cons, sB_nil, andB_nx, andB_ret, s_asg, s_par, s_aug, s_expr, s_ret, s_ite, s_for, lift2_some, asgV, asgP, asgPs, setAll, augV, pure_ap,
 e_var, e_int, e_str, e_bl, e_non, e_cst, e_bin, e_neg, e_cmp, e_cmp2, e_and, e_or, e_not, e_ite, e_tup, e_lst, es_nil', es_cons', flats_nil, flats_cons, e_idx, e_slc, o_none, o_some, optI_int, e_call, e_bi, e_me, e_comp, e_lenSet,
 t_and, t_or, t_not, t_e, truth_b, c_nil, c_cons, i_seq, i_enum, i_zip, i_range1, i_range2, seqT_l, seqT_t, seqT_s, seqS_l, seqS_t, lock_nil, unlock_nil,
 binV_v, add_i, sub_i, cmpV_v, q_eq_i, q_ne_i, q_eq_s, q_ne_s, q_lt, q_le, q_gt, q_ge, q_in_c, q_in_t, q_eq_l, q_ne_l, q_eq_t, q_ne_t, thenC_b, elseC_b, ite_and, ite_or, ite_andT, ite_orT, idxV_t, idxV_l, idxV_s, slcV_t, slcV_l, biV1, biV2, b_len_l, b_len_t, b_all, b_any, b_sum, sumI_eq, b_tup_l, b_tup_t, b_int_b, b_int_i, b_isI, max2_i, min2_i, isTy, endF_ret, endF_nx, List.take_length, List.take_left, wipeL,
 if_true, if_false, ite_true, ite_false, Bool.not_true, Bool.not_false, Bool.true_and, Bool.false_and, Bool.and_true, Bool.and_false, Bool.true_or, Bool.false_or, Bool.or_false, Bool.or_true, Bool.false_eq_true, Bool.not_not, at0, at1, at2, at3, at4, at5, e_own, f_lst, f_dt, f_dk, w_kindA, w_kindE, w_append, w_extend, w_ret, w_cut, w_sorted, w_lenT, reduceIte, reduceCtorEq, decide_true, decide_false,
 stepX_eq, stepY_some, nx_ok, nx_ite, flat_v, compL_fuse, compM_cond, compM_map, compL_nil, compL_cons, consO, allBl_map, allInt_map, any_id, all_id, Option.map_some, rangeL_typed, enum_typed, zip_typed, turn_v, turn_t, app_ite, app_ite0, c, h4, e]
  · rw [call_val (np := 3) (nl := 3) (body := b_l_pick) rfl rfl]
    simp -implicitDefEqProofs only [b_l_pick, List.map_cons, List.map_nil, List.length_cons, List.length_nil, List.length_map, Nat.reduceSub, Nat.sub_self, Nat.reduceAdd, List.replicate_zero, List.replicate_succ, List.append_nil, List.cons_append, List.nil_append, List.getElem?_cons_zero, List.getElem?_cons_succ, List.set_cons_zero, List.set_cons_succ,
 rbind_ok, rbind_no, sB_cons, sB_nil, andB_nx, andB_ret, s_asg, s_par, s_aug, s_expr, s_ret, s_ite, s_for, lift2_some, asgV, asgP, asgPs, setAll, augV, pure_ap,
 e_var, e_int, e_str, e_bl, e_non, e_cst, e_bin, e_neg, e_cmp, e_cmp2, e_and, e_or, e_not, e_ite, e_tup, e_lst, es_nil', es_cons', flats_nil, flats_cons, e_idx, e_slc, o_none, o_some, optI_int, e_call, e_bi, e_me, e_comp, e_lenSet,
 t_and, t_or, t_not, t_e, truth_b, c_nil, c_cons, i_seq, i_enum, i_zip, i_range1, i_range2, seqT_l, seqT_t, seqT_s, seqS_l, seqS_t, lock_nil, unlock_nil,
 binV_v, add_i, sub_i, cmpV_v, q_eq_i, q_ne_i, q_eq_s, q_ne_s, q_lt, q_le, q_gt, q_ge, q_in_c, q_in_t, q_eq_l, q_ne_l, q_eq_t, q_ne_t, thenC_b, elseC_b, ite_and, ite_or, ite_andT, ite_orT, idxV_t, idxV_l, idxV_s, slcV_t, slcV_l, biV1, biV2, b_len_l, b_len_t, b_all, b_any, b_sum, sumI_eq, b_tup_l, b_tup_t, b_int_b, b_int_i, b_isI, max2_i, min2_i, isTy, endF_ret, endF_nx, List.take_length, List.take_left, wipeL,
 if_true, if_false, ite_true, ite_false, Bool.not_true, Bool.not_false, Bool.true_and, Bool.false_and, Bool.and_true, Bool.and_false, Bool.true_or, Bool.false_or, Bool.or_false, Bool.or_true, Bool.false_eq_true, Bool.not_not, at0, at1, at2, at3, at4, at5, e_own, f_lst, f_dt, f_dk, w_kindA, w_kindE, w_append, w_extend, w_ret, w_cut, w_sorted, w_lenT, reduceIte, reduceCtorEq, decide_true, decide_false,
 stepX_eq, stepY_some, nx_ok, nx_ite, flat_v, compL_fuse, compM_cond, compM_map, compL_nil, compL_cons, consO, allBl_map, allInt_map, any_id, all_id, Option.map_some, rangeL_typed, enum_typed, zip_typed, turn_v, turn_t, app_ite, app_ite0, c, h4, e]
/-- .. from a list of the store -/
theorem c_pick_o (ns : List Int) (hn : ns.length ≤ 1000) (n : Nat) (h : n ≤ 900000) (xs : List PV) (hx : xs ≠ []) : ∃ x ∈ xs, ∀ k b μ, callN T (k + 4) .val b .l_pick [.v (pS ns), .o 0, .o 1] (tw n :: .lst xs :: μ) = .ok (.v x) (tw (n + 1) :: .lst xs :: μ) := by
  have hp : (0 : Int) < xs.length := by have := List.length_pos_iff.mpr hx; omega
  have h1 := rnd_nn ns (n + 1) hp
  have h2 := rnd_lt ns (n + 1) hp
  have h3 : (rnd ns (n + 1) xs.length).toNat < xs.length := by omega
  refine ⟨xs[(rnd ns (n + 1) xs.length).toNat], List.getElem_mem h3, fun k b μ => ?_⟩
  have h4 : atN xs (rnd ns (n + 1) xs.length) = some xs[(rnd ns (n + 1) xs.length).toNat] := by
    unfold atN
    rw [if_pos h1, List.getElem?_eq_getElem h3]
  have c := fun c ν => c_draw k c ν ns hn n h xs.length hp
  have e : ∀ (z y : MO) (r : Mem), (z :: y :: r).take (μ.length + 1 + 1) = z :: y :: r.take μ.length := fun _ _ _ => rfl
  have e1 : ∀ (z : MO) (r : Mem), biV .len [.o 1] (z :: .lst xs :: r) = .ok (.v (.int xs.length)) (z :: .lst xs :: r) := fun _ _ => rfl
  have e2 : ∀ (z : MO) (r : Mem), idxV (.o 1) (.v (.int (rnd ns (n + 1) xs.length))) (z :: .lst xs :: r) = .ok (.v xs[(rnd ns (n + 1) xs.length).toNat]) (z :: .lst xs :: r) := fun z r => by
    show (ofO (atN xs (rnd ns (n + 1) xs.length)) (z :: .lst xs :: r)).bind _ = _
    rw [h4]; rfl
  rw [call_val (np := 3) (nl := 3) (body := b_l_pick) rfl rfl]
  simp -implicitDefEqProofs only [b_l_pick, List.map_cons, List.map_nil, List.length_cons, List.length_nil, List.length_map, Nat.reduceSub, Nat.sub_self, Nat.reduceAdd, List.replicate_zero, List.replicate_succ, List.append_nil, List.cons_append, List.nil_append, List.getElem?_cons_zero, List.getElem?_cons_succ, List.set_cons_zero, List.set_cons_succ,
 rbind_ok, rbind_no, sB_cons, sB_nil, andB_nx, andB_ret, s_asg, s_par, s_aug, s_expr, s_ret, s_ite, s_for, lift2_some, asgV, asgP, asgPs, setAll, augV, pure_ap,
 e_var, e_int, e_str, e_bl, e_non, e_cst, e_bin, e_neg, e_cmp, e_cmp2, e_and, e_or, e_not, e_ite, e_tup, e_lst, es_nil', es_cons', flats_nil, flats_cons, e_idx, e_slc, o_none, o_some, optI_int, e_call, e_bi, e_me, e_comp, e_lenSet,
 t_and, t_or, t_not, t_e, truth_b, c_nil, c_cons, i_seq, i_enum, i_zip, i_range1, i_range2, seqT_l, seqT_t, seqT_s, seqS_l, seqS_t, lock_nil, unlock_nil,
 binV_v, add_i, sub_i, cmpV_v, q_eq_i, q_ne_i, q_eq_s, q_ne_s, q_lt, q_le, q_gt, q_ge, q_in_c, q_in_t, q_eq_l, q_ne_l, q_eq_t, q_ne_t, thenC_b, elseC_b, ite_and, ite_or, ite_andT, ite_orT, idxV_t, idxV_l, idxV_s, slcV_t, slcV_l, biV1, biV2, b_len_l, b_len_t, b_all, b_any, b_sum, sumI_eq, b_tup_l, b_tup_t, b_int_b, b_int_i, b_isI, max2_i, min2_i, isTy, endF_ret, endF_nx, List.take_length, List.take_left, wipeL,
 if_true, if_false, ite_true, ite_false, Bool.not_true, Bool.not_false, Bool.true_and, Bool.false_and, Bool.and_true, Bool.and_false, Bool.true_or, Bool.false_or, Bool.or_false, Bool.or_true, Bool.false_eq_true, Bool.not_not, at0, at1, at2, at3, at4, at5, e_own, f_lst, f_dt, f_dk, w_kindA, w_kindE, w_append, w_extend, w_ret, w_cut, w_sorted, w_lenT, reduceIte, reduceCtorEq, decide_true, decide_false,
 stepX_eq, stepY_some, nx_ok, nx_ite, flat_v, compL_fuse, compM_cond, compM_map, compL_nil, compL_cons, consO, allBl_map, allInt_map, any_id, all_id, Option.map_some, rangeL_typed, enum_typed, zip_typed, turn_v, turn_t, app_ite, app_ite0, e1, c, e2, e]
end K
end
section
/-! Results held against what is due, by the kernel. -/
namespace SW
def sameK : List (Ky × PV) → List (Ky × PV) → Bool
  | [], ys => match ys with | [] => true | _ => false
  | x :: xs, ys => match ys with | [] => false | y :: ys => decide (x.1 = y.1) && same x.2 y.2 && sameK xs ys
theorem sameK_eq : ∀ (xs ys : List (Ky × PV)), sameK xs ys = true → xs = ys
  | [], ys, h => by cases ys <;> simp [sameK] at h; rfl
  | x :: xs, ys, h => by
    cases ys with
    | nil => simp [sameK] at h
    | cons y ys =>
      simp only [sameK, Bool.and_eq_true, decide_eq_true_eq] at h
      obtain ⟨⟨h1, h2⟩, h3⟩ := h
      rw [sameK_eq xs ys h3]
      obtain ⟨a, b⟩ := x
      obtain ⟨c, d⟩ := y
      dsimp only at h1 h2
      rw [h1, same_eq _ _ h2]
def sameO : MO → MO → Bool
  | .lst a, y => match y with | .lst b => sames a b | _ => false
  | .dk a, y => match y with | .dk b => sameK a b | _ => false
  | _, _ => false
theorem sameO_eq : ∀ (x y : MO), sameO x y = true → x = y
  | .lst a, y, h => by cases y <;> simp [sameO] at h; rw [sames_eq _ _ h]
  | .dk a, y, h => by cases y <;> simp [sameO] at h; rw [sameK_eq _ _ h]
  | .dt a, y, h => by simp [sameO] at h
  | .lk a, y, h => by simp [sameO] at h
  | .ins a b, y, h => by simp [sameO] at h
def sameM : Mem → Mem → Bool
  | [], ys => match ys with | [] => true | _ => false
  | x :: xs, ys => match ys with | [] => false | y :: ys => sameO x y && sameM xs ys
theorem sameM_eq : ∀ (xs ys : Mem), sameM xs ys = true → xs = ys
  | [], ys, h => by cases ys <;> simp [sameM] at h; rfl
  | x :: xs, ys, h => by
    cases ys with
    | nil => simp [sameM] at h
    | cons y ys =>
      simp only [sameM, Bool.and_eq_true] at h
      rw [sameO_eq _ _ h.1, sameM_eq _ _ h.2]
/-- it ends with p, the store is μ -/
def endsB (r : Res Val) (p : PV) (μ : Mem) : Bool := match r with
  | .ok (.v q) ν => same q p && sameM ν μ
  | _ => false
theorem endsB_eq {r : Res Val} {p : PV} {μ : Mem} (h : endsB r p μ = true) : r = .ok (.v p) μ := by
  unfold endsB at h
  split at h
  · rw [Bool.and_eq_true] at h
    rw [same_eq _ _ h.1, sameM_eq _ _ h.2]
  · cases h
end SW
end
section
set_option maxRecDepth 100000
/-! Exceptions and picked defs, as rules; texts in two halves. -/
namespace SW
section
variable {F : Type} {C : Mode → Nat → F → List Val → M Val} {b : Nat} {l : Loc} {μ : Mem}
theorem e_callL (m : Mode) (fs : List F) (i : E F) (es : List (E F)) : evE C b (.callL m fs i es) l μ = (evE C b i l μ).bind fun x ν => (ofO (atF fs x) ν).bind fun f τ => (evEs C b es l τ).bind fun vs κ => C m b f vs κ := by rw [evE]; rfl
theorem atF_n (fs : List F) (n : Nat) : atF fs (.v (.int n)) = fs[n]? := by
  show (if (0 : Int) ≤ n then fs[(n : Int).toNat]? else none) = _
  rw [if_pos (by omega), Int.toNat_natCast]
theorem s_raise (c : Nat) : evS C b (.raise c : S F) l μ = .exn c μ := by rw [evS]; rfl
/-- an except clause on a result -/
def catchR (n : Nat) (k : Option Nat) (r : Option PV) (l : Loc) (fr : Bool) (x : Res (Loc × Fl)) : Res (Loc × Fl) := match x with
  | .ok z ν => .ok z ν
  | .exn c ν => if Nat.blt c n && fr then (match k with
    | none => .ok (l, .ret (.v (valX r c))) ν
    | some d => if c = d then .ok (l, .ret (.v (valX r c))) ν else .exn c ν) else .no
  | .no => .no
theorem s_try (n : Nat) (k : Option Nat) (r : Option PV) (body : List (S F)) : evS C b (.tryX n k r body) l μ = catchR n k r l (freeM μ) (evB C b body l μ) := by rw [evS]; rfl
theorem catchR_ok (n : Nat) (k : Option Nat) (r : Option PV) (l : Loc) (fr : Bool) (z : Loc × Fl) (ν : Mem) : catchR n k r l fr (.ok z ν) = .ok z ν := rfl
theorem catchR_all {n c : Nat} (h : c < n) (r : Option PV) (l : Loc) (ν : Mem) : catchR n none r l true (.exn c ν) = .ok (l, .ret (.v (valX r c))) ν := by
  unfold catchR
  dsimp only
  rw [if_pos (by simp [Nat.blt_eq.mpr h])]
theorem endF_exn (c e : Nat) (μ : Mem) : endF .val c (.exn e μ) = .exn e (μ.take c) := rfl
theorem andB_app (xs ys : List (S F)) (z : Loc × Fl) (ν : Mem) : (∀ l μ, evB C b (xs ++ ys) l μ = (evB C b xs l μ).bind (andB C b ys)) → andB C b (xs ++ ys) z ν = (andB C b xs z ν).bind (andB C b ys) := by
  intro h
  obtain ⟨l, f⟩ := z
  cases f with
  | nx => rw [andB_nx, andB_nx, h]
  | ret v => rw [andB_ret, andB_ret, rbind_ok, andB_ret]
theorem rbind_assoc {α β γ : Type} (x : Res α) (f : α → Mem → Res β) (g : β → Mem → Res γ) : (x.bind f).bind g = x.bind fun a ν => (f a ν).bind g := by cases x <;> rfl
/-- two halves of a text -/
theorem evB_app (xs ys : List (S F)) : ∀ l μ, evB C b (xs ++ ys) l μ = (evB C b xs l μ).bind (andB C b ys) := by
  induction xs with
  | nil => intro l μ; rw [List.nil_append, sB_nil, rbind_ok, andB_nx]
  | cons x xs ih =>
    intro l μ
    rw [List.cons_append, sB_cons, sB_cons, rbind_assoc]
    congr 1
    funext z ν
    exact andB_app xs ys z ν ih
theorem evB_cut (n : Nat) (xs : List (S F)) (l : Loc) (μ : Mem) : evB C b xs l μ = (evB C b (xs.take n) l μ).bind (andB C b (xs.drop n)) := by
  rw [← evB_app, List.take_append_drop]
end
/-- a test is no, the store stays -/
def noB (r : Res Bool) (μ : Mem) : Bool := match r with
  | .ok x ν => !x && sameM ν μ
  | _ => false
theorem noB_eq {r : Res Bool} {μ : Mem} (h : noB r μ = true) : r = .ok false μ := by
  unfold noB at h
  split at h
  · rename_i x ν
    rw [Bool.and_eq_true] at h
    rw [sameM_eq _ _ h.2]
    cases x
    · rfl
    · cases h.1
  · cases h
/-- it hands back p -/
def givesB (r : Res (Loc × Fl)) (p : PV) : Bool := match r with
  | .ok (_, .ret (.v q)) _ => same q p
  | _ => false
theorem givesB_eq {r : Res (Loc × Fl)} {p : PV} (h : givesB r p = true) : ∃ l μ, r = .ok (l, .ret (.v p)) μ := by
  unfold givesB at h
  split at h
  · rw [same_eq _ _ h]; exact ⟨_, _, rfl⟩
  · cases h
end SW
end
section
set_option maxRecDepth 100000
/-! Law k19. -/
namespace K
open SW
def c2 : PV := .tup [.tup [.str [97], .str [112, 97, 100], .tup [.int 0, .int 0, .int 0, .int 1, .int 1, .int 1]], .tup [.str [98], .str [112, 111, 115, 116], .tup [.int 2, .int 0, .int 0, .int 1, .int 1, .int 1]]]
def c3 : PV := .tup [.tup [.tup [.str [97], .str [112, 97, 100], .tup [.int 0, .int 0, .int 0, .int 1, .int 1, .int 1]], .tup [.str [98], .str [112, 111, 115, 116], .tup [.int 2, .int 0, .int 0, .int 1, .int 1, .int 1]]], .tup [.tup [.int 1, .int 1, .int 10, .int 1], .tup [.int 1, .int 1, .int 7, .int 0], .tup [.int 1, .int 1, .int 1, .int 0], .tup [.int 1, .int 1, .int 1, .int 0], .tup [.int 1, .int 1, .int 1, .int 0]], .tup []]
def c4 : PV := .lst [.tup [.int 0, .str [98, 101, 103, 105, 110, 115], .str [97]], .tup [.int 0, .str [101, 110, 100, 115], .str [97]], .tup [.int 1, .str [112, 97, 115, 115, 101, 115], .str [97]], .tup [.int 2, .str [98, 101, 103, 105, 110, 115], .str [98]], .tup [.int 45, .str [101, 110, 100, 115], .str [98]]]
def c11 : PV := .tup [.non, .str [98, 101, 103, 105, 110, 115], .str [98]]
def bads0 : List PV := [.non, .int 5, .tup [], .tup [.tup [.int 0, .str [98, 101, 103, 105, 110, 115], .str [97]], .tup [.int 0, .str [101, 110, 100, 115], .str [97]], .tup [.int 1, .str [112, 97, 115, 115, 101, 115], .str [97]], .tup [.int 2, .str [98, 101, 103, 105, 110, 115], .str [98]], .tup [.int 45, .str [101, 110, 100, 115], .str [98]]], .lst [], .lst [.tup [.int 0, .str [98, 101, 103, 105, 110, 115], .str [97]], .tup [.int 0, .str [101, 110, 100, 115], .str [97]], .tup [.int 1, .str [112, 97, 115, 115, 101, 115], .str [97]], .tup [.int 2, .str [98, 101, 103, 105, 110, 115], .str [98]]]]
def bads1 : List PV := [.lst [.tup [.int 0, .str [98, 101, 103, 105, 110, 115], .str [97]], .tup [.int 0, .str [101, 110, 100, 115], .str [97]], .tup [.int 2, .str [98, 101, 103, 105, 110, 115], .str [98]], .tup [.int 45, .str [101, 110, 100, 115], .str [98]]], .lst [.tup [.int 0, .str [98, 101, 103, 105, 110, 115], .str [97]], .tup [.int 0, .str [101, 110, 100, 115], .str [97]], .tup [.int 1, .str [112, 97, 115, 115, 101, 115], .str [97]], .tup [.int 2, .str [98, 101, 103, 105, 110, 115], .str [98]], .tup [.int 45, .str [101, 110, 100, 115], .str [98]], .non], .lst [.tup [.int 0, .str [98, 101, 103, 105, 110, 115], .str [97]], .tup [.int 0, .str [101, 110, 100, 115], .str [97]], .tup [.int 1, .str [112, 97, 115, 115, 101, 115], .str [97]], .tup [.int 2, .str [98, 101, 103, 105, 110, 115], .str [98]], .tup [.int 45, .str [101, 110, 100, 115], .str [98]], .tup [.int 1, .str [101, 110, 100, 115]]], .lst [.tup [.int 0, .str [98, 101, 103, 105, 110, 115], .str [97]], .tup [.int 0, .str [101, 110, 100, 115], .str [97]], .tup [.int 1, .str [112, 97, 115, 115, 101, 115], .str [97]], .tup [.int 2, .str [98, 101, 103, 105, 110, 115], .str [98]], .tup [.int 45, .str [101, 110, 100, 115], .str [98]], .lst [.int 1, .str [101, 110, 100, 115], .str [97]]], .lst [.tup [.int 0, .str [98, 101, 103, 105, 110, 115], .str [97]], .tup [.int 0, .str [101, 110, 100, 115], .str [97]], .tup [.int 1, .str [112, 97, 115, 115, 101, 115], .str [97]], .tup [.int 2, .str [98, 101, 103, 105, 110, 115], .str [98]], .tup [.int 45, .str [101, 110, 100, 115], .str [98]], .tup [.int (-1), .str [98, 101, 103, 105, 110, 115], .str [98]]], .lst [.tup [.int 0, .str [98, 101, 103, 105, 110, 115], .str [97]], .tup [.int 0, .str [101, 110, 100, 115], .str [97]], .tup [.int 1, .str [112, 97, 115, 115, 101, 115], .str [97]], .tup [.int 2, .str [98, 101, 103, 105, 110, 115], .str [98]], .tup [.int 45, .str [101, 110, 100, 115], .str [98]], .tup [.str [49], .str [98, 101, 103, 105, 110, 115], .str [98]]]]
def bads2 : List PV := [.lst [.tup [.int 0, .str [98, 101, 103, 105, 110, 115], .str [97]], .tup [.int 0, .str [101, 110, 100, 115], .str [97]], .tup [.int 1, .str [112, 97, 115, 115, 101, 115], .str [97]], .tup [.int 2, .str [98, 101, 103, 105, 110, 115], .str [98]], .tup [.int 45, .str [101, 110, 100, 115], .str [98]], .tup [.bl true, .str [98, 101, 103, 105, 110, 115], .str [98]]], .lst [.tup [.int 0, .str [98, 101, 103, 105, 110, 115], .str [97]], .tup [.int 0, .str [101, 110, 100, 115], .str [97]], .tup [.int 1, .str [112, 97, 115, 115, 101, 115], .str [97]], .tup [.int 2, .str [98, 101, 103, 105, 110, 115], .str [98]], .tup [.int 45, .str [101, 110, 100, 115], .str [98]], .tup [.int 2, .str [115, 116, 111, 112, 115], .str [98]]], .lst [.tup [.int 0, .str [98, 101, 103, 105, 110, 115], .str [97]], .tup [.int 0, .str [101, 110, 100, 115], .str [97]], .tup [.int 1, .str [112, 97, 115, 115, 101, 115], .str [97]], .tup [.int 2, .str [98, 101, 103, 105, 110, 115], .str [98]], .tup [.int 45, .str [101, 110, 100, 115], .str [98]], .tup [.int 2, .non, .str [98]]], .lst [.tup [.int 0, .str [98, 101, 103, 105, 110, 115], .str [97]], .tup [.int 0, .str [101, 110, 100, 115], .str [97]], .tup [.int 1, .str [112, 97, 115, 115, 101, 115], .str [97]], .tup [.int 2, .str [98, 101, 103, 105, 110, 115], .str [98]], .tup [.int 45, .str [101, 110, 100, 115], .str [98]], .tup [.int 2, .str [98, 101, 103, 105, 110, 115], .str [122]]], .lst [.tup [.int 0, .str [98, 101, 103, 105, 110, 115], .str [97]], .tup [.int 0, .str [101, 110, 100, 115], .str [97]], .tup [.int 1, .str [112, 97, 115, 115, 101, 115], .str [97]], .tup [.int 2, .str [98, 101, 103, 105, 110, 115], .str [98]], .tup [.int 45, .str [101, 110, 100, 115], .str [98]], .tup [.int 2, .str [98, 101, 103, 105, 110, 115], .non]], .lst [.tup [.int 0, .str [98, 101, 103, 105, 110, 115], .str [97]], .tup [.int 0, .str [101, 110, 100, 115], .str [97]], .tup [.int 1, .str [112, 97, 115, 115, 101, 115], .str [97]], .tup [.int 2, .str [98, 101, 103, 105, 110, 115], .str [98]], .tup [.int 45, .str [101, 110, 100, 115], .str [98]], .tup [.non, .str [98, 101, 103, 105, 110, 115], .str [98]]]]
def bads : List PV := bads0 ++ bads1 ++ bads2
/-- the slots: the bad log, the day, the later log -/
def lo (ns : List Int) (x y z : Option Val) : Loc := [some (.v (pS ns)), some (.o 0), some (.v c2), some (.v c3), some (.v c4), some (.o 1), x, y, z, some (.v (.int 0)), some (.v (.non)), some (.v c11), none]
def m0 : Mem := [tw 0, .lst bads]
def m1 : Mem := [tw 1, .lst bads]
def m2 : Mem := [tw 2, .lst bads]
theorem pre_eq (ns : List Int) : evB (callN T 39) 0 (b_d_law.take 7) ([some (.v (pS ns))] ++ List.replicate 12 none) [] = .ok (lo ns none none none, .nx) m0 := by kernel_rfl
def tst (i : Nat) : Cn Fn := match b_d_law[i]? with
  | some (.ite c _ _) => c
  | _ => .e .bad
theorem mid_eq (ns : List Int) : (bads.all fun x => noB (evT (callN T 39) 0 (tst 8) (lo ns (some (.v x)) none none) m1) m1) = true := by kernel_rfl
theorem good_eq (ns : List Int) (x : PV) : noB (evT (callN T 39) 0 (tst 9) (lo ns (some (.v x)) none none) m1) m1 = true := by kernel_rfl
theorem end_eq (ns : List Int) (x : PV) : ((List.range 60).all fun i => givesB (evB (callN T 39) 0 (b_d_law.drop 11) (lo ns (some (.v x)) (some (.v (.int (20 + (i : Int))))) none) m2) (.bl true)) = true := by kernel_rfl
theorem law_ok (_ : Nat) (ns : List Int) (hn : ns.length ≤ 63) : ∃ μ, callN T 40 .raw 0 .d_law [.v (pS ns)] [] = .ok (.v (.bl true)) μ := by
  rw [show (40 : Nat) = 39 + 1 from rfl, call_raw (np := 1) (nl := 13) (body := b_d_law) rfl rfl, evB_cut 7]
  rw [show ([Val.v (pS ns)].map some ++ List.replicate (13 - 1) none) = ([some (.v (pS ns))] ++ List.replicate 12 none) from rfl, pre_eq ns]
  obtain ⟨x, hx, hp⟩ := c_pick_o ns (by omega) 0 (by omega) bads (by simp [bads, bads0])
  have hp := hp 35 0 []
  have h8 := noB_eq (List.all_eq_true.mp (mid_eq ns) x hx)
  have h9 := noB_eq (good_eq ns x)
  have a1 := rnd_nn ns 2 (m := 60) (by omega)
  have a2 := rnd_lt ns 2 (m := 60) (by omega)
  obtain ⟨i, hi⟩ : ∃ i : Nat, rnd ns 2 60 = i := ⟨(rnd ns 2 60).toNat, by omega⟩
  have hd := c_draw 36 0 [.lst bads] ns (by omega) 1 (by omega) 60 (by omega)
  obtain ⟨l', μ', h11⟩ := givesB_eq (List.all_eq_true.mp (end_eq ns x) i (by simp; omega))
  have e7 : evS (callN T 39) 0 (.asg (.v 6) (.call .val .l_pick [.var 0, .var 1, .var 5])) (lo ns none none none) m0 = .ok (lo ns (some (.v x)) none none, .nx) m1 := by
    have hp : callN T 39 .val 0 .l_pick [.v (pS ns), .o 0, .o 1] m0 = .ok (.v x) m1 := hp
    simp -implicitDefEqProofs only [lo, List.map_cons, List.map_nil, List.length_cons, List.length_nil, List.length_map, Nat.reduceSub, Nat.sub_self, Nat.reduceAdd, List.replicate_zero, List.replicate_succ, List.append_nil, List.cons_append, List.nil_append, List.getElem?_cons_zero, List.getElem?_cons_succ, List.set_cons_zero, List.set_cons_succ,
 rbind_ok, rbind_no, sB_cons, sB_nil, andB_nx, andB_ret, s_asg, s_par, s_aug, s_expr, s_ret, s_ite, s_for, lift2_some, asgV, asgP, asgPs, setAll, augV, pure_ap,
 e_var, e_int, e_str, e_bl, e_non, e_cst, e_bin, e_neg, e_cmp, e_cmp2, e_and, e_or, e_not, e_ite, e_tup, e_lst, es_nil', es_cons', flats_nil, flats_cons, e_idx, e_slc, o_none, o_some, optI_int, e_call, e_bi, e_me, e_comp, e_lenSet,
 t_and, t_or, t_not, t_e, truth_b, c_nil, c_cons, i_seq, i_enum, i_zip, i_range1, i_range2, seqT_l, seqT_t, seqT_s, seqS_l, seqS_t, lock_nil, unlock_nil,
 binV_v, add_i, sub_i, cmpV_v, q_eq_i, q_ne_i, q_eq_s, q_ne_s, q_lt, q_le, q_gt, q_ge, q_in_c, q_in_t, q_eq_l, q_ne_l, q_eq_t, q_ne_t, thenC_b, elseC_b, ite_and, ite_or, ite_andT, ite_orT, idxV_t, idxV_l, idxV_s, slcV_t, slcV_l, biV1, biV2, b_len_l, b_len_t, b_all, b_any, b_sum, sumI_eq, b_tup_l, b_tup_t, b_int_b, b_int_i, b_isI, max2_i, min2_i, isTy, endF_ret, endF_nx, List.take_length, List.take_left, wipeL,
 if_true, if_false, ite_true, ite_false, Bool.not_true, Bool.not_false, Bool.true_and, Bool.false_and, Bool.and_true, Bool.and_false, Bool.true_or, Bool.false_or, Bool.or_false, Bool.or_true, Bool.false_eq_true, Bool.not_not, at0, at1, at2, at3, at4, at5, e_own, f_lst, f_dt, f_dk, w_kindA, w_kindE, w_append, w_extend, w_ret, w_cut, w_sorted, w_lenT, reduceIte, reduceCtorEq, decide_true, decide_false,
 stepX_eq, stepY_some, nx_ok, nx_ite, flat_v, compL_fuse, compM_cond, compM_map, compL_nil, compL_cons, consO, allBl_map, allInt_map, any_id, all_id, Option.map_some, rangeL_typed, enum_typed, zip_typed, turn_v, turn_t, app_ite, app_ite0, hp]
  have e10 : evS (callN T 39) 0 (.asg (.v 7) (.bin .add (.int 20) (.call .val .l_draw [.var 0, .var 1, .int 60]))) (lo ns (some (.v x)) none none) m1 = .ok (lo ns (some (.v x)) (some (.v (.int (20 + (i : Int))))) none, .nx) m2 := by
    have hd : callN T 39 .val 0 .l_draw [.v (pS ns), .o 0, .v (.int 60)] m1 = .ok (.v (.int (i : Int))) m2 := by rw [← hi]; exact hd
    simp -implicitDefEqProofs only [lo, List.map_cons, List.map_nil, List.length_cons, List.length_nil, List.length_map, Nat.reduceSub, Nat.sub_self, Nat.reduceAdd, List.replicate_zero, List.replicate_succ, List.append_nil, List.cons_append, List.nil_append, List.getElem?_cons_zero, List.getElem?_cons_succ, List.set_cons_zero, List.set_cons_succ,
 rbind_ok, rbind_no, sB_cons, sB_nil, andB_nx, andB_ret, s_asg, s_par, s_aug, s_expr, s_ret, s_ite, s_for, lift2_some, asgV, asgP, asgPs, setAll, augV, pure_ap,
 e_var, e_int, e_str, e_bl, e_non, e_cst, e_bin, e_neg, e_cmp, e_cmp2, e_and, e_or, e_not, e_ite, e_tup, e_lst, es_nil', es_cons', flats_nil, flats_cons, e_idx, e_slc, o_none, o_some, optI_int, e_call, e_bi, e_me, e_comp, e_lenSet,
 t_and, t_or, t_not, t_e, truth_b, c_nil, c_cons, i_seq, i_enum, i_zip, i_range1, i_range2, seqT_l, seqT_t, seqT_s, seqS_l, seqS_t, lock_nil, unlock_nil,
 binV_v, add_i, sub_i, cmpV_v, q_eq_i, q_ne_i, q_eq_s, q_ne_s, q_lt, q_le, q_gt, q_ge, q_in_c, q_in_t, q_eq_l, q_ne_l, q_eq_t, q_ne_t, thenC_b, elseC_b, ite_and, ite_or, ite_andT, ite_orT, idxV_t, idxV_l, idxV_s, slcV_t, slcV_l, biV1, biV2, b_len_l, b_len_t, b_all, b_any, b_sum, sumI_eq, b_tup_l, b_tup_t, b_int_b, b_int_i, b_isI, max2_i, min2_i, isTy, endF_ret, endF_nx, List.take_length, List.take_left, wipeL,
 if_true, if_false, ite_true, ite_false, Bool.not_true, Bool.not_false, Bool.true_and, Bool.false_and, Bool.and_true, Bool.and_false, Bool.true_or, Bool.false_or, Bool.or_false, Bool.or_true, Bool.false_eq_true, Bool.not_not, at0, at1, at2, at3, at4, at5, e_own, f_lst, f_dt, f_dk, w_kindA, w_kindE, w_append, w_extend, w_ret, w_cut, w_sorted, w_lenT, reduceIte, reduceCtorEq, decide_true, decide_false,
 stepX_eq, stepY_some, nx_ok, nx_ite, flat_v, compL_fuse, compM_cond, compM_map, compL_nil, compL_cons, consO, allBl_map, allInt_map, any_id, all_id, Option.map_some, rangeL_typed, enum_typed, zip_typed, turn_v, turn_t, app_ite, app_ite0, hd]
  have e8 : evS (callN T 39) 0 (.ite (tst 8) [.ret (.bl false)] []) (lo ns (some (.v x)) none none) m1 = .ok (lo ns (some (.v x)) none none, .nx) m1 := by
    simp -implicitDefEqProofs only [List.map_cons, List.map_nil, List.length_cons, List.length_nil, List.length_map, Nat.reduceSub, Nat.sub_self, Nat.reduceAdd, List.replicate_zero, List.replicate_succ, List.append_nil, List.cons_append, List.nil_append, List.getElem?_cons_zero, List.getElem?_cons_succ, List.set_cons_zero, List.set_cons_succ,
 rbind_ok, rbind_no, sB_cons, sB_nil, andB_nx, andB_ret, s_asg, s_par, s_aug, s_expr, s_ret, s_ite, s_for, lift2_some, asgV, asgP, asgPs, setAll, augV, pure_ap,
 e_var, e_int, e_str, e_bl, e_non, e_cst, e_bin, e_neg, e_cmp, e_cmp2, e_and, e_or, e_not, e_ite, e_tup, e_lst, es_nil', es_cons', flats_nil, flats_cons, e_idx, e_slc, o_none, o_some, optI_int, e_call, e_bi, e_me, e_comp, e_lenSet,
 t_and, t_or, t_not, t_e, truth_b, c_nil, c_cons, i_seq, i_enum, i_zip, i_range1, i_range2, seqT_l, seqT_t, seqT_s, seqS_l, seqS_t, lock_nil, unlock_nil,
 binV_v, add_i, sub_i, cmpV_v, q_eq_i, q_ne_i, q_eq_s, q_ne_s, q_lt, q_le, q_gt, q_ge, q_in_c, q_in_t, q_eq_l, q_ne_l, q_eq_t, q_ne_t, thenC_b, elseC_b, ite_and, ite_or, ite_andT, ite_orT, idxV_t, idxV_l, idxV_s, slcV_t, slcV_l, biV1, biV2, b_len_l, b_len_t, b_all, b_any, b_sum, sumI_eq, b_tup_l, b_tup_t, b_int_b, b_int_i, b_isI, max2_i, min2_i, isTy, endF_ret, endF_nx, List.take_length, List.take_left, wipeL,
 if_true, if_false, ite_true, ite_false, Bool.not_true, Bool.not_false, Bool.true_and, Bool.false_and, Bool.and_true, Bool.and_false, Bool.true_or, Bool.false_or, Bool.or_false, Bool.or_true, Bool.false_eq_true, Bool.not_not, at0, at1, at2, at3, at4, at5, e_own, f_lst, f_dt, f_dk, w_kindA, w_kindE, w_append, w_extend, w_ret, w_cut, w_sorted, w_lenT, reduceIte, reduceCtorEq, decide_true, decide_false,
 stepX_eq, stepY_some, nx_ok, nx_ite, flat_v, compL_fuse, compM_cond, compM_map, compL_nil, compL_cons, consO, allBl_map, allInt_map, any_id, all_id, Option.map_some, rangeL_typed, enum_typed, zip_typed, turn_v, turn_t, app_ite, app_ite0, h8]
  have e9 : evS (callN T 39) 0 (.ite (tst 9) [.ret (.bl false)] []) (lo ns (some (.v x)) none none) m1 = .ok (lo ns (some (.v x)) none none, .nx) m1 := by
    simp -implicitDefEqProofs only [List.map_cons, List.map_nil, List.length_cons, List.length_nil, List.length_map, Nat.reduceSub, Nat.sub_self, Nat.reduceAdd, List.replicate_zero, List.replicate_succ, List.append_nil, List.cons_append, List.nil_append, List.getElem?_cons_zero, List.getElem?_cons_succ, List.set_cons_zero, List.set_cons_succ,
 rbind_ok, rbind_no, sB_cons, sB_nil, andB_nx, andB_ret, s_asg, s_par, s_aug, s_expr, s_ret, s_ite, s_for, lift2_some, asgV, asgP, asgPs, setAll, augV, pure_ap,
 e_var, e_int, e_str, e_bl, e_non, e_cst, e_bin, e_neg, e_cmp, e_cmp2, e_and, e_or, e_not, e_ite, e_tup, e_lst, es_nil', es_cons', flats_nil, flats_cons, e_idx, e_slc, o_none, o_some, optI_int, e_call, e_bi, e_me, e_comp, e_lenSet,
 t_and, t_or, t_not, t_e, truth_b, c_nil, c_cons, i_seq, i_enum, i_zip, i_range1, i_range2, seqT_l, seqT_t, seqT_s, seqS_l, seqS_t, lock_nil, unlock_nil,
 binV_v, add_i, sub_i, cmpV_v, q_eq_i, q_ne_i, q_eq_s, q_ne_s, q_lt, q_le, q_gt, q_ge, q_in_c, q_in_t, q_eq_l, q_ne_l, q_eq_t, q_ne_t, thenC_b, elseC_b, ite_and, ite_or, ite_andT, ite_orT, idxV_t, idxV_l, idxV_s, slcV_t, slcV_l, biV1, biV2, b_len_l, b_len_t, b_all, b_any, b_sum, sumI_eq, b_tup_l, b_tup_t, b_int_b, b_int_i, b_isI, max2_i, min2_i, isTy, endF_ret, endF_nx, List.take_length, List.take_left, wipeL,
 if_true, if_false, ite_true, ite_false, Bool.not_true, Bool.not_false, Bool.true_and, Bool.false_and, Bool.and_true, Bool.and_false, Bool.true_or, Bool.false_or, Bool.or_false, Bool.or_true, Bool.false_eq_true, Bool.not_not, at0, at1, at2, at3, at4, at5, e_own, f_lst, f_dt, f_dk, w_kindA, w_kindE, w_append, w_extend, w_ret, w_cut, w_sorted, w_lenT, reduceIte, reduceCtorEq, decide_true, decide_false,
 stepX_eq, stepY_some, nx_ok, nx_ite, flat_v, compL_fuse, compM_cond, compM_map, compL_nil, compL_cons, consO, allBl_map, allInt_map, any_id, all_id, Option.map_some, rangeL_typed, enum_typed, zip_typed, turn_v, turn_t, app_ite, app_ite0, h9]
  have ed : b_d_law.drop 7 = .asg (.v 6) (.call .val .l_pick [.var 0, .var 1, .var 5]) :: .ite (tst 8) [.ret (.bl false)] [] :: .ite (tst 9) [.ret (.bl false)] [] :: .asg (.v 7) (.bin .add (.int 20) (.call .val .l_draw [.var 0, .var 1, .int 60])) :: b_d_law.drop 11 := rfl
  rw [ed, rbind_ok, andB_nx, sB_cons, e7, rbind_ok, andB_nx, sB_cons, e8, rbind_ok, andB_nx, sB_cons, e9, rbind_ok, andB_nx, sB_cons, e10, rbind_ok, andB_nx, h11]
  exact ⟨μ', rfl⟩
end K
end
set_option maxRecDepth 100000 in
set_option maxHeartbeats 0 in
theorem PySem.Challenge.cw_siteworks_k19_logs_refused_holds : PySem.Challenge.rw_siteworks_k19_logs_refused.Holds := by
  exact K.holds_of 39 ⟨by rfl, by decide, by decide⟩ fun ns h _ => K.law_ok 0 ns h
