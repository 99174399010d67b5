import PyProof.Rows.All
import HandS.ForMost
import HandS.Exc
import HandS.ExcOwn
import HandS.TryOnly
import HandS.WordsExc
import HandS.CallSlots
import HandS.Defaults
import HandS.EndBits
import HandS.IsInst
import HandS.TupAny
import HandS.TupMul
import HandS.TupSets
import HandS.Deep
import HandS.Wide
import HandS.Walk
import HandS.HeadHook1
import HandS.HeadHook2
import HandS.Head2
import HandS.HeadEnd
import HandS.Zip0
import KE.KTupSum
import KE.BitLaws
import PySem.Challenge.RW_learnrealm_k97_taken_one_by_one
set_option Elab.async false
set_option linter.all false
set_option maxRecDepth 100000
set_option maxHeartbeats 4000000
/-! IP1: a small interpreter of the text's own syntax: data, store, results. -/
namespace IP
open PySem L2

/-- data that never changes -/
inductive DV where
  | non | bl (b : Bool) | int (i : Int) | str (x : Str)
  | tup (xs : List DV) | lst (xs : List DV)
  | obj (c : Str) (ns : List Str) (xs : List DV)

/-- a value: data, a cell of the store, a built-in type, the law's script -/
inductive Val where
  | d (x : DV) | r (n : Nat) | ty (s : String) | scr (ns : List Int)

/-- what a cell holds -/
inductive Cell where
  | lst (xs : List Val)
  | obj (c : Str) (ns : List Str) (xs : List Val)

abbrev Store := List Cell
abbrev Env := List (Option Val)

inductive Res (α : Type) where
  | ok (a : α) (st : Store)
  | exc (c : Str) (x : List (Str × Val)) (st : Store)
  | bad

def M (α : Type) := Store → Res α
def M.pure (a : α) : M α := fun st => .ok a st
def M.bind (x : M α) (f : α → M β) : M β := fun st => match x st with
  | .ok a st' => f a st'
  | .exc c v st' => .exc c v st'
  | .bad => .bad
def bad : M α := fun _ => .bad
instance : Monad M where
  pure := M.pure
  bind := M.bind

/-- what only reads the store -/
abbrev P (α : Type) := Store → Option α
def liftP (p : P α) : M α := fun st => match p st with
  | some a => .ok a st
  | none => .bad
def liftO (o : Option α) : M α := fun st => match o with
  | some a => .ok a st
  | none => .bad
abbrev Key2 := Str × Option Str

/-! ### data as PyData, for == -/
mutual
def DV.py : DV → Option PyData
  | .non => some .none
  | .bl b => some (.bool b)
  | .int i => some (.int i)
  | .str x => some (.str x)
  | .tup xs => match pyL xs with
    | some ys => some (.tuple ys)
    | none => none
  | .lst xs => match pyL xs with
    | some ys => some (.list ys)
    | none => none
  | .obj _ _ _ => none
def pyL : List DV → Option (List PyData)
  | [] => some []
  | x :: xs => match DV.py x with
    | some y => match pyL xs with
      | some ys => some (y :: ys)
      | none => none
    | none => none
end

/-- all of a list are data -/
def pureL : List Val → Option (List DV)
  | [] => some []
  | .d x :: r => match pureL r with
    | some xs => some (x :: xs)
    | none => none
  | _ :: _ => none

/-- a list's, a tuple's items -/
def seqOf (v : Val) (st : Store) : Option (List Val) := match v with
  | .d (.lst xs) => some (xs.map Val.d)
  | .d (.tup xs) => some (xs.map Val.d)
  | .r n => match st[n]? with
    | some (.lst xs) => some xs
    | _ => none
  | _ => none
/-- the same where all items are data -/
def dseqOf (v : Val) (st : Store) : Option (List DV) := match v with
  | .d (.lst xs) => some xs
  | .d (.tup xs) => some xs
  | .r n => match st[n]? with
    | some (.lst xs) => pureL xs
    | _ => none
  | _ => none
def isTup : Val → Bool
  | .d (.tup _) => true
  | _ => false

def intsOf : List DV → Option (List Int)
  | [] => some []
  | .int i :: r => match intsOf r with
    | some xs => some (i :: xs)
    | none => none
  | _ :: _ => none
def blsOf : List DV → Option (List Bool)
  | [] => some []
  | .bl i :: r => match blsOf r with
    | some xs => some (i :: xs)
    | none => none
  | _ :: _ => none
/-- tuples of ints -/
def tupsOf : List DV → Option (List (List Int))
  | [] => some []
  | .tup xs :: r => match intsOf xs with
    | some is => match tupsOf r with
      | some ys => some (is :: ys)
      | none => none
    | none => none
  | _ :: _ => none

def tI (xs : List Int) : DV := .tup (xs.map DV.int)
def lI (xs : List Int) : DV := .lst (xs.map DV.int)

/-! ### operators -/
def MulOkB (i j : Int) : Bool := decide (i.natAbs < 2 ^ 64) || decide (j.natAbs < 2 ^ 64) || decide (i.natAbs.log2 + j.natAbs.log2 < 1000000)
def PowOkB (i j : Int) : Bool := decide (0 ≤ j) && decide (j ≤ 1000000) && decide (i.natAbs < 2 ^ 64)
def DivOkB (j : Int) : Bool := decide (0 < j) && decide (j.natAbs.log2 < 9000)
def lim : Nat := 1000000
def okI (b : Bool) (i : Int) : Option Val := if b then some (.d (.int i)) else none
/-- a op b of two ints -/
def binI (op : Operator) (i j : Int) : Option Val := match op with
  | .Add => some (.d (.int (i + j)))
  | .Sub => some (.d (.int (i - j)))
  | .Mult => okI (MulOkB i j) (i * j)
  | .FloorDiv => okI (DivOkB j) (i / j)
  | .Mod => okI (decide (0 < j)) (i % j)
  | .Pow => okI (PowOkB i j) (i ^ j.toNat)
  | .LShift => okI (PowOkB i j) (i * 2 ^ j.toNat)
  | .RShift => okI (decide (0 ≤ j)) (i / 2 ^ j.toNat)
  | .BitAnd => some (.d (.int (Builtin.bitAnd i j)))
  | .BitOr => some (.d (.int (Builtin.bitOr i j)))
  | .BitXor => some (.d (.int (Builtin.bitXor i j)))
  | _ => none
def bin (op : Operator) (x y : Val) : Option Val := match x, y with
  | .d (.int i), .d (.int j) => binI op i j
  | .d (.lst xs), .d (.lst ys) => match op with
    | .Add => if xs.length + ys.length ≤ lim then some (.d (.lst (xs ++ ys))) else none
    | _ => none
  | .d (.tup xs), .d (.tup ys) => match op with
    | .Add => if xs.length + ys.length ≤ lim then some (.d (.tup (xs ++ ys))) else none
    | _ => none
  | .d (.tup xs), .d (.int k) => match op with
    | .Mult => if 0 ≤ k ∧ k ≤ 1000 ∧ xs.length ≤ 1000 ∧ xs ≠ [] then some (.d (.tup (List.replicate k.toNat xs).flatten)) else none
    | _ => none
  | _, _ => none
def un (op : UnaryOp) (x : Val) : Option Val := match op, x with
  | .USub, .d (.int i) => some (.d (.int (-i)))
  | .Invert, .d (.int i) => some (.d (.int (Builtin.bitNot i)))
  | .Not, .d (.bl b) => some (.d (.bl (!b)))
  | _, _ => none

/-- two values as data for == (a cell's list too) -/
def pyOf (v : Val) (st : Store) : Option PyData := match v with
  | .d x => match x.py with
    | some p => if SeqAt.shaped p then some p else none
    | none => none
  | .r n => match st[n]? with
    | some (.lst xs) => match pureL xs with
      | some ds => match pyL ds with
        | some ps => if SeqAt.shaped (.list ps) then some (.list ps) else none
        | none => none
      | none => none
    | _ => none
  | _ => none
def isNon : Val → Bool
  | .d .non => true
  | _ => false
def cmpI (op : CmpOp) (i j : Int) : Option Bool := match op with
  | .Lt => some (decide (i < j))
  | .LtE => some (decide (i ≤ j))
  | .Gt => some (decide (j < i))
  | .GtE => some (decide (j ≤ i))
  | .Eq => some (decide (i = j))
  | .NotEq => some (!decide (i = j))
  | _ => none
def listOf (p : PyData) : Option (List PyData) := match p with
  | .list ps => some ps
  | _ => none
def prI (x y : Val) : Option (Int × Int) := match x, y with
  | .d (.int i), .d (.int j) => some (i, j)
  | _, _ => none
/-- a comparison of data -/
def cmpD (op : CmpOp) (x y : Val) : P Bool := fun st => match op with
  | .Eq => match pyOf x st with
    | some p => match pyOf y st with
      | some q => some (PyData.eqv p q)
      | none => none
    | none => none
  | .NotEq => match pyOf x st with
    | some p => match pyOf y st with
      | some q => some (!PyData.eqv p q)
      | none => none
    | none => none
  | .In => match pyOf x st with
    | some p => match pyOf y st with
      | some (.list qs) => some (qs.any fun z => PyData.eqv z p)
      | _ => none
    | none => none
  | .NotIn => match pyOf x st with
    | some p => match pyOf y st with
      | some (.list qs) => some (!qs.any fun z => PyData.eqv z p)
      | _ => none
    | none => none
  | .Is => if isNon y then some (isNon x) else none
  | .IsNot => if isNon y then some (!isNon x) else none
  | _ => none
/-- a comparison -/
def cmp (op : CmpOp) (x y : Val) : P Bool := fun st => match prI x y with
  | some (i, j) => cmpI op i j
  | none => cmpD op x y st

/-- the truth of a value -/
def tru (v : Val) : P Bool := fun st => match v with
  | .d .non => some false
  | .d (.bl b) => some b
  | .d (.int i) => some (i != 0)
  | .d (.tup xs) => some (!xs.isEmpty)
  | .d (.lst xs) => some (!xs.isEmpty)
  | .r n => match st[n]? with
    | some (.lst xs) => some (!xs.isEmpty)
    | _ => none
  | _ => none

/-! ### reading -/
def item (x i : Val) : P Val := fun st => match i with
  | .d (.int k) => match x with
    | .d (.lst xs) => match atI xs k with
      | some v => some (.d v)
      | none => none
    | .d (.tup xs) => match atI xs k with
      | some v => some (.d v)
      | none => none
    | .r n => match st[n]? with
      | some (.lst xs) => match atI xs k with
        | some v => some v
        | none => none
      | _ => none
    | _ => none
  | _ => none
def cutD (xs : List DV) (lo hi : Option Int) : List DV := (xs.drop (HT.sIx xs.length 0 lo)).take (HT.sIx xs.length xs.length hi - HT.sIx xs.length 0 lo)
def cut (x : Val) (lo hi : Option Int) : P Val := fun st => match x with
  | .d (.lst xs) => some (.d (.lst (cutD xs lo hi)))
  | .d (.tup xs) => some (.d (.tup (cutD xs lo hi)))
  | .r n => match st[n]? with
    | some (.lst xs) => match pureL xs with
      | some ds => some (.d (.lst (cutD ds lo hi)))
      | none => none
    | _ => none
  | _ => none
def asInt : Val → Option Int
  | .d (.int i) => some i
  | _ => none
def lookZ : List Str → List α → Str → Option α
  | n :: ns, x :: xs, f => if n = f then some x else lookZ ns xs f
  | _, _, _ => none
def field (fl : List (Str × Str)) (x : Val) (f : Str) : P Val := fun st => match x with
  | .d (.obj c ns xs) => if (c, f) ∈ fl then match lookZ ns xs f with
      | some v => some (.d v)
      | none => none
    else none
  | .r n => match st[n]? with
    | some (.obj c ns xs) => if (c, f) ∈ fl then lookZ ns xs f else none
    | _ => none
  | _ => none

/-! ### built-ins -/
/-- a value's type, for isinstance -/
def tyOf (v : Val) (st : Store) : Option String := match v with
  | .d .non => some "NoneType"
  | .d (.bl _) => some "bool"
  | .d (.int _) => some "int"
  | .d (.str _) => some "str"
  | .d (.tup _) => some "tuple"
  | .d (.lst _) => some "list"
  | .r n => match st[n]? with
    | some (.lst _) => some "list"
    | _ => none
  | _ => none
def isTy (t c : String) : Option Bool :=
  if (c == "int" || c == "bool" || c == "str" || c == "tuple" || c == "list") then kitB t c else none
def sumI : List Int → Int
  | xs => xs.sum
def maxI : List Int → Int
  | [] => 0
  | x :: xs => xs.foldl (fun a b => if a < b then b else a) x
def minI : List Int → Int
  | [] => 0
  | x :: xs => xs.foldl (fun a b => if b < a then b else a) x
/-- ascending lists of ints of one length -/
def insT (x : List Int) : List (List Int) → List (List Int)
  | [] => [x]
  | y :: ys => if HT.lexLt y x then y :: insT x ys else x :: y :: ys
def sortT : List (List Int) → List (List Int)
  | [] => []
  | x :: xs => insT x (sortT xs)
def insI (x : Int) : List Int → List Int
  | [] => [x]
  | y :: ys => if y < x then y :: insI x ys else x :: y :: ys
def sortI : List Int → List Int
  | [] => []
  | x :: xs => insI x (sortI xs)
def dedup : List (List Int) → List (List Int)
  | [] => []
  | x :: xs => if x ∈ xs then dedup xs else x :: dedup xs
def bnd : Int := 1000000
/-- tuples of like length, their ints from 0 on below a bound -/
def likeT (d : Nat) (xs : List (List Int)) : Bool := xs.all fun x => decide (x.length = d) && x.all fun i => decide (0 ≤ i) && decide (i < bnd)
def headLen : List (List Int) → Nat
  | [] => 0
  | x :: _ => x.length

def biLen (v : Val) : P Val := fun st => match seqOf v st with
  | some xs => some (.d (.int xs.length))
  | none => none
def biInts (v : Val) (f : List Int → Option Int) : P Val := fun st =>
  if isTup v then none else match dseqOf v st with
  | some ds => match intsOf ds with
    | some is => match f is with
      | some i => some (.d (.int i))
      | none => none
    | none => none
  | none => none
/-- sum: of a list or a tuple -/
def biSum (v : Val) : P Val := fun st => match dseqOf v st with
  | some ds => match intsOf ds with
    | some is => some (.d (.int is.sum))
    | none => none
  | none => none
def biBls (v : Val) (f : List Bool → Bool) : P Val := fun st =>
  if isTup v then none else match dseqOf v st with
  | some ds => match blsOf ds with
    | some is => some (.d (.bl (f is)))
    | none => none
  | none => none
def biTuple (v : Val) : P Val := fun st => match dseqOf v st with
  | some ds => some (.d (.tup ds))
  | none => none
def biList (v : Val) : P Val := fun st => match dseqOf v st with
  | some ds => some (.d (.lst ds))
  | none => none
/-- sorted(xs): xs a list of ints, or of tuples of ints -/
def biSorted (v : Val) : P Val := fun st =>
  if isTup v then none else match dseqOf v st with
  | some ds => if ds.length < 64 then match tupsOf ds with
    | some ts => if likeT (headLen ts) ts && decide (0 < headLen ts) || decide (ts.length < 2) then some (.d (.lst ((sortT ts).map tI))) else none
    | none => match intsOf ds with
      | some is => some (.d (.lst ((sortI is).map DV.int)))
      | none => none
    else none
  | none => none
/-- sorted(set(xs)): xs a list of tuples of ints -/
def biSortedSet (v : Val) : P Val := fun st =>
  if isTup v then none else match dseqOf v st with
  | some ds => if ds.length < 64 then match tupsOf ds with
    | some ts => if likeT (headLen ts) ts then some (.d (.lst ((sortT (dedup ts)).map tI))) else none
    | none => none
    else none
  | none => none
def biInt (v : Val) : P Val := fun _ => match v with
  | .d (.int i) => some (.d (.int i))
  | .d (.bl b) => some (.d (.int (if b then 1 else 0)))
  | _ => none
def biAbs (v : Val) : P Val := fun _ => match v with
  | .d (.int i) => some (.d (.int (if i < 0 then -i else i)))
  | _ => none
def bi2 (f : Int → Int → Int) (x y : Val) : P Val := fun _ => match x, y with
  | .d (.int i), .d (.int j) => some (.d (.int (f i j)))
  | _, _ => none
def tysOf : List Val → Option (List String)
  | [] => some []
  | .ty s :: r => match tysOf r with
    | some xs => some (s :: xs)
    | none => none
  | _ :: _ => none
def isAny (t : String) : List String → Option Bool
  | [] => some false
  | c :: cs => match isTy t c with
    | some true => match isAny t cs with
      | some _ => some true
      | none => none
    | some false => isAny t cs
    | none => none
def biIsi (v : Val) (cs : List Val) : P Val := fun st => match tyOf v st, tysOf cs with
  | some t, some ts => match isAny t ts with
    | some b => some (.d (.bl b))
    | none => none
  | _, _ => none

def f1 (p : Val → P Val) : List Val → P Val := fun vs st => match vs with
  | [v] => p v st
  | _ => none
def f2 (p : Val → Val → P Val) : List Val → P Val := fun vs st => match vs with
  | [x, y] => p x y st
  | _ => none
/-- a built-in, called with that many values -/
def biF (f : Str) (n : Nat) : Option (List Val → P Val) :=
  if n = 1 then
    if f = "sum" then some (f1 biSum)
    else if f = "max" then some (f1 fun v => biInts v fun is => if is.isEmpty then none else some (maxI is))
    else if f = "min" then some (f1 fun v => biInts v fun is => if is.isEmpty then none else some (minI is))
    else if f = "any" then some (f1 fun v => biBls v fun bs => bs.any id)
    else if f = "all" then some (f1 fun v => biBls v fun bs => bs.all id)
    else if f = "tuple" then some (f1 biTuple)
    else if f = "list" then some (f1 biList)
    else if f = "sorted" then some (f1 biSorted)
    else if f = "int" then some (f1 biInt)
    else if f = "abs" then some (f1 biAbs)
    else none
  else if n = 2 then
    if f = "max" then some (f2 (bi2 fun i j => if j > i then j else i))
    else if f = "min" then some (f2 (bi2 fun i j => if j < i then j else i))
    else if f = "isinstance" then some (f2 fun x y => biIsi x [y])
    else none
  else none
end IP

set_option maxHeartbeats 4000000
/-! IP2: the interpreter: expressions, statements, defs. -/
namespace IP
open PySem L2

structure Glob where
  /-- the defs, each with its slots -/
  defs : List (He.DefD × List Str)
  /-- own classes that are made; true: an instance never changes once it is made -/
  cls : List (Str × Bool)
  /-- the module's constants -/
  cons : List (Str × DV)
  /-- built-in names that the module does not bind -/
  free : List Str
  /-- displays that are made as cells (line, column) -/
  muts : List (Nat × Nat)
  /-- fields of own instances (class, name) -/
  flds : List (Str × Str)
  /-- defs that hand back their cell -/
  mret : List Key2
  /-- the keywords that a def is called with, no value ahead -/
  kws : List (Key2 × List Str)
  /-- exception classes that are named in except clauses -/
  excs : List Str

def findD : List (He.DefD × List Str) → Key2 → Option (He.DefD × List Str)
  | [], _ => none
  | d :: r, k => if d.1.at_ = k then some d else findD r k
def Glob.find (G : Glob) (k : Key2) : Option (He.DefD × List Str) := findD G.defs k
def parsOf (d : He.DefD) : List Str := d.params.args.map (·.arg)
def lookS : List (Str × α) → Str → Option α
  | [], _ => none
  | (n, a) :: r, x => if n = x then some a else lookS r x
def isVis (sc : Scope) (x : Str) : Bool := match sc.names.lookup x with
  | some .local => true
  | some .cell => true
  | some .free => true
  | _ => false
def isLoc (sc : Scope) (x : Str) : Bool := match sc.names.lookup x with
  | some .local => true
  | some .cell => true
  | _ => false
def isLocal (sc : Scope) (x : Str) : Bool := match sc.names.lookup x with
  | some .local => true
  | _ => false
def isGl (sc : Scope) (x : Str) : Bool := match sc.names.lookup x with
  | some .globalImplicit => true
  | _ => false
def idx : List Str → Str → Option Nat
  | [], _ => none
  | y :: r, x => if y = x then some 0 else match idx r x with
    | some i => some (i + 1)
    | none => none
def okName (x : Str) : Bool := decide (x ≠ "__debug__") && decide (x ≠ "__classdict__") && decide (x ≠ "__name__")
def tyName (x : Str) : Option String :=
  if x = "int" then some "int" else if x = "bool" then some "bool" else if x = "str" then some "str" else if x = "tuple" then some "tuple" else if x = "list" then some "list" else none

def evName (G : Glob) (N : List Str) (sc : Scope) (x : Str) (env : Env) : M Val :=
  if okName x then
    if isVis sc x then match idx N x with
      | some i => match env[i]? with
        | some (some v) => pure v
        | _ => bad
      | none => bad
    else if isGl sc x then match lookS G.cons x with
      | some v => pure (.d v)
      | none => if x ∈ G.free then match tyName x with
          | some t => pure (.ty t)
          | none => bad
        else bad
    else bad
  else bad
def constV : Const → M Val
  | .int i => pure (.d (.int i))
  | .bool b => pure (.d (.bl b))
  | .none => pure (.d .non)
  | .str x => pure (.d (.str x))
  | _ => bad
def isStar : Expr → Bool
  | .Starred _ _ => true
  | _ => false
/-- arguments, items of a display -/
def evL0 (f : Expr → M Val) : List Expr → M (List Val)
  | [] => pure []
  | e :: es => do
    let v ← f e
    let vs ← evL0 f es
    pure (v :: vs)
def evL (f : Expr → M Val) (es : List Expr) : M (List Val) := if es.any isStar then bad else evL0 f es
/-- a bound of a slice -/
def evO (f : Expr → M Val) : Option Expr → M (Option Int)
  | some e => do
    let v ← f e
    let i ← liftO (asInt v)
    pure (some i)
  | none => pure none
def keysOf : List Keyword → Option (List Str)
  | [] => some []
  | ⟨some n, _, _⟩ :: es => match keysOf es with
    | some r => some (n :: r)
    | none => none
  | _ :: _ => none
def evK (f : Expr → M Val) : List Keyword → M (List Val)
  | [] => pure []
  | ⟨_, e, _⟩ :: es => do
    let v ← f e
    let vs ← evK f es
    pure (v :: vs)
/-- o in o.f: not super() -/
def plainB : Expr → Bool
  | .Call (.Name x _) [] [] _ => x != "super"
  | _ => true
/-- the parameters' values of a call by keywords alone -/
def byName {α : Type} (vs : List (Str × α)) : List Str → Option (List α)
  | [] => some []
  | p :: ps => match lookS vs p with
    | some v => match byName vs ps with
      | some r => some (v :: r)
      | none => none
    | none => none

def byNameL {α : Type} (ks : List Str) (vs : List α) (ps : List Str) : Option (List α) := if vs.length = ks.length then byName (ks.zip vs) ps else none
def cellM (G : Glob) (pos : Pos) (vs : List Val) : M Val := fun st =>
  if (pos.line, pos.col) ∈ G.muts then .ok (.r st.length) (st ++ [.lst vs])
  else match pureL vs with
    | some ds => if ds.length ≤ lim then .ok (.d (.lst ds)) st else .bad
    | none => .bad
def tupM (vs : List Val) : M Val := match pureL vs with
  | some ds => if ds.length ≤ lim then pure (.d (.tup ds)) else bad
  | none => bad

/-! ### targets -/
def bindNames (wr : Str → Bool) (N : List Str) : List Expr → List DV → Env → Option Env
  | [], [], env => some env
  | .Name x _ :: es, v :: vs, env => if wr x then match idx N x with
      | some i => bindNames wr N es vs (env.set i (some (.d v)))
      | none => none
    else none
  | _, _, _ => none
def bindTg (wr : Str → Bool) (N : List Str) (tg : Expr) (v : Val) (env : Env) : Option Env := match tg with
  | .Name x _ => if wr x then match idx N x with
      | some i => some (env.set i (some v))
      | none => none
    else none
  | .Tuple es _ _ => match v with
    | .d (.tup ds) => bindNames wr N es ds env
    | _ => none
  | _ => none
def isTupleE : Expr → Bool
  | .Tuple _ _ _ => true
  | _ => false
def wipeE (env : Env) : List Nat → Env
  | [] => env
  | v :: vs => (wipeE env vs).set v none
def ownOf (N : List Str) : List (Str × NameKind) → List (Str × Nat)
  | [] => []
  | (x, k) :: r => match k with
    | .local => match idx N x with
      | some i => (x, i) :: ownOf N r
      | none => ownOf N r
    | .cell => match idx N x with
      | some i => (x, i) :: ownOf N r
      | none => ownOf N r
    | _ => ownOf N r

/-! ### what is walked -/
def rangeV (lo : Int) (n : Nat) : List Val := (List.range n).map fun (i : Nat) => Val.d (.int (lo + (i : Int)))
def small62 (i : Int) : Bool := decide (-(2 ^ 62) ≤ i) && decide (i < 2 ^ 62)
def rangeP (vs : List Val) : Option (List Val) := match vs with
  | [.d (.int j)] => if small62 j then some (rangeV 0 j.toNat) else none
  | [.d (.int i), .d (.int j)] => if small62 i && small62 j then some (rangeV i (j - i).toNat) else none
  | _ => none
def rangeS (vs : List Val) : M (List Val) := liftO (rangeP vs)
def minL : List (List DV) → Nat
  | [] => 0
  | [x] => x.length
  | x :: y :: r => min x.length (minL (y :: r))
def zipI (xss : List (List DV)) (i : Nat) : List DV := xss.map fun xs => xs.getD i .non
def zipN (xss : List (List DV)) : List Val := (List.range (minL xss)).map fun i => .d (.tup (zipI xss i))
def dseqD : Val → Option (List DV)
  | .d (.lst xs) => some xs
  | .d (.tup xs) => some xs
  | _ => none
def dseqs : List Val → Option (List (List DV))
  | [] => some []
  | v :: vs => match dseqD v with
    | some xs => match dseqs vs with
      | some r => some (xs :: r)
      | none => none
    | none => none
def zipS (vs : List Val) : M (List Val) := liftO ((dseqs vs).map zipN)
def enumFrom (n : Nat) : List DV → List Val
  | [] => []
  | x :: xs => .d (.tup [.int n, x]) :: enumFrom (n + 1) xs
/-- lists and tuples of data, the script -/
def genS (v : Val) : M (List Val) := match v with
  | .d (.lst xs) => pure (xs.map Val.d)
  | .d (.tup xs) => pure (xs.map Val.d)
  | .scr ns => pure (ns.map fun n => Val.d (.int n))
  | _ => bad
/-- what is walked: 1 range(..), 2 zip(..), 0 any value -/
def srcKind (G : Glob) (sc : Scope) (tg : Expr) (e : Expr) : Nat × List Expr := match e with
  | .Call (.Name x _) args [] _ =>
    if isGl sc x && decide (x ∈ G.free) && !args.any isStar then
      if decide (x = "range") && (args.length == 1 || args.length == 2) then (1, args)
      else if decide (x = "zip") && (args.length == 2 || args.length == 3) && isTupleE tg then (2, args)
      else (0, [])
    else (0, [])
  | _ => (0, [])
def isSetE : Expr → Bool
  | .Set _ _ _ => true
  | _ => false
def srcOf (G : Glob) (sc : Scope) (f : Expr → M Val) (tg : Expr) (e : Expr) : M (List Val) := if isSetE e then bad else match srcKind G sc tg e with
  | (1, args) => do rangeS (← evL0 f args)
  | (2, args) => do zipS (← evL0 f args)
  | _ => do genS (← f e)
/-- no exception may leave -/
def noExc (m : M α) : M α := fun st => match m st with
  | .exc _ _ _ => .bad
  | r => r
def compLoop (bd : Val → Option Env) (cond : Env → M Bool) (elt : Env → M Val) : List Val → M (List DV)
  | [] => pure []
  | x :: r => match bd x with
    | none => bad
    | some e1 => do
      let b ← noExc (cond e1)
      if b then do
        let v ← noExc (elt e1)
        match v with
        | .d y => do
          let ys ← compLoop bd cond elt r
          pure (y :: ys)
        | _ => bad
      else compLoop bd cond elt r
def condOf (f : Expr → Env → M Bool) (ifs : List Expr) (e1 : Env) : M Bool := match ifs with
  | [] => pure true
  | [c] => f c e1
  | _ => bad

/-! ### own instances -/
def Glob.frozen (G : Glob) (c : Str) : Bool := match lookS G.cls c with
  | some b => b
  | none => false
def Val.low (n : Nat) : Val → Bool
  | .r m => decide (m < n)
  | _ => true
def Cell.low (n : Nat) : Cell → Bool
  | .lst xs => xs.all (Val.low n)
  | .obj _ _ xs => xs.all (Val.low n)
def trunc (n : Nat) (st : Store) : Store := if (st.take n).all (Cell.low n) then st.take n else st
/-- C(..): a new cell, its __init__, then, where the class says so, frozen -/
def makeM (G : Glob) (call : Key2 → List Val → M Val) (c : Str) (vs : List Val) : M Val := fun st =>
  match call (c, some "__init__") (.r st.length :: vs) (st ++ [.obj c [] []]) with
  | .ok (.d .non) st' => match lookS G.cls c with
    | some true => match st'[st.length]? with
      | some (.obj c' ns xs) => match pureL xs with
        | some ds => if (st'.take st.length).all (Cell.low st.length) && decide (c' = c) then .ok (.d (.obj c ns ds)) (st'.take st.length) else .bad
        | none => .bad
      | _ => .bad
    | some false => .ok (.r st.length) st'
    | none => .bad
  | .ok _ _ => .bad
  | .exc x v st' => .exc x v st'
  | .bad => .bad
def insOf (v : Val) (st : Store) : Option (Str × List Str) := match v with
  | .d (.obj c ns _) => some (c, ns)
  | .r n => match st[n]? with
    | some (.obj c ns _) => some (c, ns)
    | _ => none
  | _ => none
/-- len(x): of an own instance by its __len__ -/
def lenM (call : Key2 → List Val → M Val) (v : Val) : M Val := fun st => match insOf v st with
  | some (c, _) => match call (c, some "__len__") [v] st with
    | .ok (.d (.int n)) st' => if 0 ≤ n ∧ n < 2 ^ 63 then .ok (.d (.int n)) st' else .bad
    | .ok _ _ => .bad
    | .exc x w st' => .exc x w st'
    | .bad => .bad
  | none => liftP (biLen v) st

/-! ### methods of built-in types -/
def idxI (x : Int) : List Int → Option Nat
  | [] => none
  | y :: ys => if y = x then some 0 else match idxI x ys with
    | some i => some (i + 1)
    | none => none
/-- a list: data, a cell -/
def recvL : Val → Bool
  | .r _ => true
  | .d (.lst _) => true
  | _ => false
def appM (v : Val) (vs : List Val) : M Val := fun st => match vs with
  | [x] => match v with
    | .r n => match st[n]? with
      | some (.lst xs) => if xs.length < lim then .ok (.d .non) (st.set n (.lst (xs ++ [x]))) else .bad
      | _ => .bad
    | _ => .bad
  | _ => .bad
def indexM (v : Val) (vs : List Val) : M Val := liftP fun st => match vs with
  | [.d (.int i)] => if isTup v then none else match dseqOf v st with
    | some ds => match intsOf ds with
      | some is => match idxI i is with
        | some j => some (.d (.int j))
        | none => none
      | none => none
    | none => none
  | _ => none

/-- and, or as values: all but the last True or False -/
def evB (f : Expr → M Val) (op : BoolOp) : List Expr → M Val
  | [] => bad
  | [e] => f e
  | e :: e' :: es => do
    let v ← f e
    match v with
    | .d (.bl b) => match op, b with
      | .And, true => evB f op (e' :: es)
      | .And, false => pure (.d (.bl false))
      | .Or, true => pure (.d (.bl true))
      | .Or, false => evB f op (e' :: es)
    | _ => bad
def evTs (f : Expr → M Bool) (op : BoolOp) : List Expr → M Bool
  | [] => bad
  | [e] => f e
  | e :: e' :: es => do
    let b ← f e
    match op, b with
      | .And, true => evTs f op (e' :: es)
      | .And, false => pure false
      | .Or, true => pure true
      | .Or, false => evTs f op (e' :: es)

/-- sorted(set(a)) -/
def setArg (G : Glob) (sc : Scope) (f : Str) (args : List Expr) : Option Expr := if f = "sorted" then match args with
  | [.Call (.Name g _) [a] [] _] => if isGl sc g && decide (g ∈ G.free) && decide (g = "set") && !isStar a then some a else none
  | _ => none
  else none
/-- isinstance(a, (..)) -/
def isiArg (f : Str) (args : List Expr) : Option (Expr × List Expr) := if f = "isinstance" then match args with
  | [a, .Tuple cs _ _] => if isStar a || cs.any isStar || decide (cs.length > 100) then none else some (a, cs)
  | _ => none
  else none
def lenArg (f : Str) (args : List Expr) : Option Expr := if f = "len" then match args with
  | [a] => if isStar a then none else some a
  | _ => none
  else none
mutual
/-- an expression -/
def ev (G : Glob) (call : Key2 → List Val → M Val) : Nat → List Str → Scope → Expr → Env → M Val
  | 0, _, _, _, _ => bad
  | n + 1, N, sc, e, env => match e with
    | .Constant c _ _ => constV c
    | .Name x _ => evName G N sc x env
    | .BinOp a op b _ => do
      let x ← ev G call n N sc a env
      let y ← ev G call n N sc b env
      liftO (bin op x y)
    | .UnaryOp op a _ => do
      let x ← ev G call n N sc a env
      liftO (un op x)
    | .BoolOp op es _ => evB (fun e => ev G call n N sc e env) op es
    | .Compare a [op] [b] _ => if behindInMarks op b then bad else do
      let x ← ev G call n N sc a env
      let y ← ev G call n N sc b env
      let r ← liftP (cmp op x y)
      pure (.d (.bl r))
    | .Compare a [op, op'] [b, c] _ => if lastMarks [op, op'] [b, c] then bad else do
      let x ← ev G call n N sc a env
      let y ← ev G call n N sc b env
      let r ← liftP (cmp op x y)
      if r then do
        let z ← ev G call n N sc c env
        let r' ← liftP (cmp op' y z)
        pure (.d (.bl r'))
      else pure (.d (.bl false))
    | .IfExp c a b _ => do
      let t ← evT G call n N sc c env
      if t then ev G call n N sc a env else ev G call n N sc b env
    | .Tuple es _ _ => do tupM (← evL (fun e => ev G call n N sc e env) es)
    | .List es pos => if es.length ≤ lim then do cellM G pos (← evL (fun e => ev G call n N sc e env) es) else bad
    | .ListComp elt [⟨tg, iter, ifs, 0⟩] scope pos =>
      if blkC N sc scope (ownOf N scope.names) then do
        let items ← srcOf G sc (fun e => ev G call n N sc e env) tg iter
        if items.length ≤ lim then do
          let ds ← compLoop (fun v => bindTg (isLoc scope) N tg v (wipeE env ((ownOf N scope.names).map (·.2))))
            (condOf (fun c e1 => evT G call n N (relS scope sc) c e1) ifs)
            (fun e1 => ev G call n N (relS scope sc) elt e1) items
          cellM G pos (ds.map Val.d)
        else bad
      else bad
    | .Subscript o (.Slice lo hi none _) _ => do
      let x ← ev G call n N sc o env
      let l ← evO (fun e => ev G call n N sc e env) lo
      let u ← evO (fun e => ev G call n N sc e env) hi
      liftP (cut x l u)
    | .Subscript o (.Slice _ _ (some _) _) _ => bad
    | .Subscript o i _ => do
      let x ← ev G call n N sc o env
      let y ← ev G call n N sc i env
      liftP (item x y)
    | .Attribute o f _ => if plainB o then do
      let x ← ev G call n N sc o env
      liftP (field G.flds x f)
      else bad
    | .Call (.Name f _) args kws _ => if okName f && isGl sc f then
        match G.find (f, none) with
        | some d => match kws with
          | [] => do call (f, none) (← evL (fun e => ev G call n N sc e env) args)
          | _ :: _ => match args with
            | [] => match keysOf kws with
              | some ks => if ((f, none), ks) ∈ G.kws then do
                let vs ← evK (fun e => ev G call n N sc e env) kws
                match byNameL ks vs (parsOf d.1) with
                | some ws => call (f, none) ws
                | none => bad
                else bad
              | none => bad
            | _ :: _ => bad
        | none => match kws with
          | [] => match lookS G.cls f with
            | some _ => if (G.find (f, some "__init__")).isNone then bad else do makeM G call f (← evL (fun e => ev G call n N sc e env) args)
            | none => if f ∈ G.free then
                match setArg G sc f args with
                | some a => do
                  let x ← ev G call n N sc a env
                  liftP (biSortedSet x)
                | none => match isiArg f args with
                  | some (a, cs) => do
                    let x ← ev G call n N sc a env
                    let ys ← evL (fun e => ev G call n N sc e env) cs
                    liftP (biIsi x ys)
                  | none => match lenArg f args with
                    | some a => do
                      let x ← ev G call n N sc a env
                      lenM call x
                    | none => match biF f args.length with
                      | some F => do
                        let vs ← evL (fun e => ev G call n N sc e env) args
                        liftP (F vs)
                      | none => bad
              else bad
          | _ :: _ => bad
      else bad
    | .Call (.Attribute o m apos) args [] pos => if (apos.endLine == pos.line) && decide (args.length < 20) && plainB o && !args.any isStar then do
        let x ← ev G call n N sc o env
        fun st => match insOf x st with
          | some (c, ns) => if m ∈ ns ∨ (G.find (c, some m)).isNone then .bad else (do call (c, some m) (x :: (← evL (fun e => ev G call n N sc e env) args))) st
          | none => if recvL x then
              if m = "append" then (do appM x (← evL (fun e => ev G call n N sc e env) args)) st
              else if m = "index" then (do indexM x (← evL (fun e => ev G call n N sc e env) args)) st
              else .bad
            else .bad
      else bad
    | _ => bad
/-- a test -/
def evT (G : Glob) (call : Key2 → List Val → M Val) : Nat → List Str → Scope → Expr → Env → M Bool
  | 0, _, _, _, _ => bad
  | n + 1, N, sc, e, env => match e with
    | .UnaryOp .Not a _ => do
      let b ← evT G call n N sc a env
      pure (!b)
    | .BoolOp op es _ => evTs (fun e => evT G call n N sc e env) op es
    | .IfExp _ _ _ _ => bad
    | .Compare a [op] [b] _ => if behindInMarks op b then bad else do
      let x ← ev G call n N sc a env
      let y ← ev G call n N sc b env
      liftP (cmp op x y)
    | .Compare a [op, op'] [b, c] _ => if lastMarks [op, op'] [b, c] then bad else do
      let x ← ev G call n N sc a env
      let y ← ev G call n N sc b env
      let r ← liftP (cmp op x y)
      if r then do
        let z ← ev G call n N sc c env
        liftP (cmp op' y z)
      else pure false
    | .Compare _ _ _ _ => bad
    | e => do
      let v ← ev G call n N sc e env
      liftP (tru v)
end
end IP

set_option maxHeartbeats 4000000
/-! IP3: statements, defs. -/
namespace IP
open PySem L2

inductive Fl where
  | next | ret (v : Val) | brk | cont
inductive SR where
  | ok (f : Fl) (env : Env) (st : Store)
  | exc (c : Str) (x : List (Str × Val)) (env : Env) (st : Store)
  | bad
abbrev SM := Env → Store → SR
/-- an expression's value, then a statement's rest -/
def withV (x : M α) (env : Env) (st : Store) (k : α → Store → SR) : SR := match x st with
  | .ok v st' => k v st'
  | .exc c v st' => .exc c v env st'
  | .bad => .bad
def isComp : Expr → Bool
  | .ListComp _ _ _ _ => true
  | .SetComp _ _ _ _ => true
  | .DictComp _ _ _ _ _ => true
  | _ => false
def isTupE : Expr → Bool
  | .Tuple _ _ _ => true
  | _ => false
/-- name = [..]: the form in which the list is stored within the comprehension's frame -/
def compOk (e : Expr) : Bool := match e with
  | .ListComp _ _ _ _ => true
  | _ => !isComp e
def setItemM (o i v : Val) (env : Env) (st : Store) : SR := match o, i with
  | .r n, .d (.int k) => match st[n]? with
    | some (.lst xs) => match ixN xs.length k with
      | some j => .ok .next env (st.set n (.lst (xs.set j v)))
      | none => .bad
    | _ => .bad
  | _, _ => .bad
def putZ (f : Str) (v : α) : List Str → List α → List Str × List α
  | n :: ns, x :: xs => if n = f then (n :: ns, v :: xs) else ((n :: (putZ f v ns xs).1), (x :: (putZ f v ns xs).2))
  | ns, xs => (ns ++ [f], xs ++ [v])
def setFieldM (fl : List (Str × Str)) (o : Val) (f : Str) (v : Val) (env : Env) (st : Store) : SR := match o with
  | .r n => match st[n]? with
    | some (.obj c ns xs) => if (c, f) ∈ fl ∧ ns.length < 900 ∧ ns.length = xs.length then .ok .next env (st.set n (.obj c (putZ f v ns xs).1 (putZ f v ns xs).2)) else .bad
    | _ => .bad
  | _ => .bad
def forLoop (bd : Val → Env → Option Env) (body : SM) : List Val → SM
  | [], env, st => .ok .next env st
  | x :: r, env, st => match bd x env with
    | none => .bad
    | some e1 => match body e1 st with
      | .ok .next e2 st2 => forLoop bd body r e2 st2
      | .ok .cont e2 st2 => forLoop bd body r e2 st2
      | .ok .brk e2 st2 => .ok .next e2 st2
      | r => r
def whileLoop (c : Env → M Bool) (body : SM) : Nat → SM
  | 0, _, _ => .bad
  | n + 1, env, st => withV (c env) env st fun b st1 => if b then match body env st1 with
      | .ok .next e2 st2 => whileLoop c body n e2 st2
      | .ok .cont e2 st2 => whileLoop c body n e2 st2
      | .ok .brk e2 st2 => .ok .next e2 st2
      | r => r
    else .ok .next env st1
def seqS (a b : SM) : SM := fun env st => match a env st with
  | .ok .next e2 st2 => b e2 st2
  | r => r
/-- a block, by the statements' readings -/
def exL (f : Stmt → SM) : List Stmt → SM
  | [] => fun env st => .ok .next env st
  | s :: ss => seqS (f s) (exL f ss)
def plainAug (op : Operator) : Bool := match op with
  | .Add => true
  | .Sub => true
  | _ => false

/-- the class of try .. except X: .. -/
def tryName (hs : List ExceptHandler) (els fi : List Stmt) : Option Str := match hs, els, fi with
  | [.ExceptHandler (some (.Name x _)) none (_ :: _) _], [], [] => some x
  | _, _, _ => none
def noExcS (r : SR) : SR := match r with
  | .exc _ _ _ _ => .bad
  | r => r
/-- a statement; wl: the bound of a while's turns -/
def ex (G : Glob) (call : Key2 → List Val → M Val) (wl : Nat) (N : List Str) (sc : Scope) : Nat → Stmt → SM
  | 0, _, _, _ => .bad
  | n + 1, s, env, st => match s with
    | .Expr (.Constant (.str _) _ _) _ => .ok .next env st
    | .Expr e _ => if isComp e then .bad else withV (ev G call 100 N sc e env) env st fun _ st1 => .ok .next env st1
    | .Return (some e) _ => withV (ev G call 100 N sc e env) env st fun v st1 => .ok (.ret v) env st1
    | .Return none _ => .ok (.ret (.d .non)) env st
    | .Assign [.Name x px] e _ => if isLoc sc x && compOk e then match idx N x with
        | some i => withV (ev G call 100 N sc e env) env st fun v st1 => .ok .next (env.set i (some v)) st1
        | none => .bad
      else .bad
    | .Assign [.Tuple es k pt] e _ => if isTupE e || isComp e then .bad else withV (ev G call 100 N sc e env) env st fun v st1 => match bindTg (isLoc sc) N (.Tuple es k pt) v env with
      | some env1 => .ok .next env1 st1
      | none => .bad
    | .Assign [.Subscript o (.Slice _ _ _ _) _] _ _ => .bad
    | .Assign [.Subscript o i _] e _ => if isComp e then .bad else withV (ev G call 100 N sc e env) env st fun v st1 =>
      withV (ev G call 100 N sc o env) env st1 fun ov st2 => withV (ev G call 100 N sc i env) env st2 fun iv st3 => setItemM ov iv v env st3
    | .Assign [.Attribute o f _] e _ => if isComp e then .bad else withV (ev G call 100 N sc e env) env st fun v st1 =>
      withV (ev G call 100 N sc o env) env st1 fun ov st2 => setFieldM G.flds ov f v env st2
    | .AugAssign (.Name x _) op e _ => if isLoc sc x && plainAug op then match idx N x with
        | some i => match env[i]? with
          | some (some (.d (.int a))) => withV (ev G call 100 N sc e env) env st fun v st1 => match v with
            | .d (.int b) => withV (liftO (binI op a b)) env st1 fun v st2 => .ok .next (env.set i (some v)) st2
            | _ => .bad
          | _ => .bad
        | none => .bad
      else .bad
    | .If c a b _ => withV (evT G call 100 N sc c env) env st fun t st1 => if t then exL (ex G call wl N sc n) a env st1 else exL (ex G call wl N sc n) b env st1
    | .For tg iter body [] _ => withV (srcOf G sc (fun e => ev G call 100 N sc e env) tg iter) env st fun items st1 =>
        forLoop (bindTg (isLoc sc) N tg) (exL (ex G call wl N sc n) body) items env st1
    | .While c body [] _ => whileLoop (fun env => evT G call 100 N sc c env) (exL (ex G call wl N sc n) body) wl env st
    | .Pass _ => .ok .next env st
    | .Break _ => .ok .brk env st
    | .Continue _ => .ok .cont env st
    | .Try body hs els fi _ => match tryName hs els fi with
      | some x => if isGl sc x && okName x && decide (x ∈ G.excs) then noExcS (exL (ex G call wl N sc n) body env st) else .bad
      | none => .bad
    | _ => .bad

/-- the entry's slots -/
def startE (N : List Str) (vs : List Val) : Env := vs.map some ++ List.replicate (N.length - vs.length) none
/-- behind a def: what is new and not handed back is dropped; a new cell that is handed back becomes data, unless the def says that it stays -/
def fin (n0 : Nat) (keep : Bool) (v : Val) (st : Store) : Res Val := match v with
  | .r n => if n < n0 then .ok v (trunc n0 st) else if keep then .ok v st else match st[n]? with
    | some (.lst xs) => match pureL xs with
      | some ds => if (st.take n0).all (Cell.low n0) then .ok (.d (.lst ds)) (st.take n0) else .bad
      | none => .bad
    | _ => .bad
  | _ => .ok v (trunc n0 st)
def runBody (G : Glob) (call : Key2 → List Val → M Val) (wl : Nat) (d : He.DefD) (N : List Str) (vs : List Val) : M Val := fun st =>
  if vs.length = (parsOf d).length then
    match exL (ex G call wl N d.scope 100) d.body (startE N vs) st with
    | .ok (.ret v) _ st' => fin st.length (decide (d.at_ ∈ G.mret)) v st'
    | .ok .next _ st' => fin st.length false (.d .non) st'
    | .ok _ _ _ => .bad
    | .exc c v _ st' => .exc c v st'
    | .bad => .bad
  else .bad
/-- a def's answer, k calls deep -/
def callF (G : Glob) (wl : Nat) : Nat → Key2 → List Val → M Val
  | 0, _, _ => bad
  | k + 1, key, vs => match G.find key with
    | some (d, N) => runBody G (callF G wl k) wl d N vs
    | none => bad
end IP
open PySem IP
example (G : Glob) (call) (N sc env p st) : ev G call 2 N sc (.BinOp (.Constant (.int 3) 0 p) .Add (.Constant (.int 4) 0 p) p) env st = .ok (.d (.int 7)) st := rfl

set_option maxHeartbeats 4000000
/-! IP4: what data, cells, slots stand for. -/
namespace IP
open PySem PySem.Spec PyProof.Rows L2

mutual
/-- the value v is the data: B holds all of it -/
inductive RD (K : PySem.W.Frag) (B : Hp) : V → DV → Prop
  | non : RD K B .non .non
  | bl (b : Bool) : RD K B (.bl b) (.bl b)
  | int (i : Int) : RD K B (.int i) (.int i)
  | str (x : Str) : RD K B (.str x) (.str x)
  | tup {a : Addr} {xs : List V} {ds : List DV} : SqT K B a xs → RDs K B xs ds → RD K B (.ref a) (.tup ds)
  | lst {a : Addr} {xs : List V} {ds : List DV} : B a = some (.lst xs) → RDs K B xs ds → RD K B (.ref a) (.lst ds)
  | obj {a dx : Addr} {c : Str} {fs : List (Str × V)} {ns : List Str} {ds : List DV} : B a = some (.ins (He.ga K c) dx fs) → fs.map (·.1) = ns → RDs K B (fs.map (·.2)) ds → RD K B (.ref a) (.obj c ns ds)
inductive RDs (K : PySem.W.Frag) (B : Hp) : List V → List DV → Prop
  | nil : RDs K B [] []
  | cons {v : V} {vs : List V} {d : DV} {ds : List DV} : RD K B v d → RDs K B vs ds → RDs K B (v :: vs) (d :: ds)
end
theorem sqT_mono {K : PySem.W.Frag} {B B' : Hp} {a : Addr} {xs : List V} (s : Same B B') (h : SqT K B a xs) : SqT K B' a xs := by
  rcases h with (h | ⟨o, h⟩) | h
  · exact .inl (.inl (s _ _ h))
  · exact .inl (.inr ⟨o, s _ _ h⟩)
  · exact .inr h
mutual
theorem RD.mono {K : PySem.W.Frag} {B B' : Hp} (s : Same B B') : ∀ {v : V} {d : DV}, RD K B v d → RD K B' v d
  | _, _, .non => .non
  | _, _, .bl b => .bl b
  | _, _, .int i => .int i
  | _, _, .str x => .str x
  | _, _, .tup h r => .tup (sqT_mono s h) (RDs.mono s r)
  | _, _, .lst h r => .lst (s _ _ h) (RDs.mono s r)
  | _, _, .obj h e r => .obj (s _ _ h) e (RDs.mono s r)
theorem RDs.mono {K : PySem.W.Frag} {B B' : Hp} (s : Same B B') : ∀ {vs : List V} {ds : List DV}, RDs K B vs ds → RDs K B' vs ds
  | _, _, .nil => .nil
  | _, _, .cons h r => .cons (RD.mono s h) (RDs.mono s r)
end
section
variable {K : PySem.W.Frag} {B B' H : Hp}
theorem RDs.length : ∀ {vs : List V} {ds : List DV}, RDs K B vs ds → vs.length = ds.length
  | _, _, .nil => rfl
  | _, _, .cons _ r => congrArg (· + 1) (RDs.length r)
theorem RDs.get : ∀ {vs : List V} {ds : List DV} {i : Nat} {d : DV}, RDs K B vs ds → ds[i]? = some d → ∃ v, vs[i]? = some v ∧ RD K B v d
  | _, _, _, _, .nil, e => by simp at e
  | _, _, 0, _, .cons h r, e => by simp at e; subst e; exact ⟨_, rfl, h⟩
  | _, _, i + 1, d, .cons h r, e => by
    obtain ⟨v, h1, h2⟩ := RDs.get (i := i) (d := d) r (by simpa using e)
    exact ⟨v, by simpa using h1, h2⟩
theorem RDs.getV : ∀ {vs : List V} {ds : List DV} {i : Nat} {v : V}, RDs K B vs ds → vs[i]? = some v → ∃ d, ds[i]? = some d ∧ RD K B v d
  | _, _, _, _, .nil, e => by simp at e
  | _, _, 0, _, .cons h r, e => by simp at e; subst e; exact ⟨_, rfl, h⟩
  | _, _, i + 1, d, .cons h r, e => by
    obtain ⟨v, h1, h2⟩ := RDs.getV (i := i) (v := d) r (by simpa using e)
    exact ⟨v, by simpa using h1, h2⟩
theorem RDs.append : ∀ {vs ws : List V} {ds es : List DV}, RDs K B vs ds → RDs K B ws es → RDs K B (vs ++ ws) (ds ++ es)
  | _, _, _, _, .nil, r => r
  | _, _, _, _, .cons h t, r => .cons h (RDs.append t r)
theorem RDs.take : ∀ {vs : List V} {ds : List DV} (n : Nat), RDs K B vs ds → RDs K B (vs.take n) (ds.take n)
  | _, _, 0, _ => .nil
  | _, _, _ + 1, .nil => .nil
  | _, _, n + 1, .cons h r => .cons h (RDs.take n r)
theorem RDs.drop : ∀ {vs : List V} {ds : List DV} (n : Nat), RDs K B vs ds → RDs K B (vs.drop n) (ds.drop n)
  | _, _, 0, r => r
  | _, _, _ + 1, .nil => .nil
  | _, _, n + 1, .cons _ r => RDs.drop n r
theorem RDs.cut {vs : List V} {ds : List DV} (lo hi : Option Int) (r : RDs K B vs ds) : RDs K B (cutV vs lo hi) (cutD ds lo hi) := by
  unfold cutV cutD
  rw [r.length]
  exact (r.drop _).take _
theorem RDs.rep {vs : List V} {ds : List DV} (r : RDs K B vs ds) : ∀ k : Nat, RDs K B (List.replicate k vs).flatten (List.replicate k ds).flatten
  | 0 => .nil
  | k + 1 => by
    rw [List.replicate_succ, List.replicate_succ, List.flatten_cons, List.flatten_cons]
    exact r.append (RDs.rep r k)
theorem RDs.ints : ∀ {vs : List V} {ds : List DV} {is : List Int}, RDs K B vs ds → intsOf ds = some is → vs = is.map V.int
  | _, _, _, .nil, e => by cases e; rfl
  | _, _, is, .cons (d := d) h r, e => by
    cases d with
    | int i =>
      unfold intsOf at e
      split at e
      · rename_i xs e2
        cases e
        cases h
        rw [RDs.ints r e2]
        rfl
      · cases e
    | _ => cases e
theorem RDs.bls : ∀ {vs : List V} {ds : List DV} {is : List Bool}, RDs K B vs ds → blsOf ds = some is → vs = is.map V.bl
  | _, _, _, .nil, e => by cases e; rfl
  | _, _, is, .cons (d := d) h r, e => by
    cases d with
    | bl i =>
      unfold blsOf at e
      split at e
      · rename_i xs e2
        cases e
        cases h
        rw [RDs.bls r e2]
        rfl
      · cases e
    | _ => cases e
theorem RDs.of_ints : ∀ (is : List Int), RDs K B (is.map V.int) (is.map DV.int)
  | [] => .nil
  | i :: is => .cons (.int i) (RDs.of_ints is)
theorem ints_of_map : ∀ (is : List Int), intsOf (is.map DV.int) = some is
  | [] => rfl
  | i :: is => by
    show intsOf (DV.int i :: is.map DV.int) = _
    unfold intsOf
    rw [ints_of_map is]
end

/-- the ghosts: the part of the heap that never changes, the cells' addresses -/
structure GS where
  B : Hp
  ad : List Addr
def RV (K : PySem.W.Frag) (g : GS) : V → Val → Prop
  | v, .d x => RD K g.B v x
  | v, .r n => ∃ a, v = .ref a ∧ g.ad[n]? = some a
  | v, .ty s => v = .ty s
  | v, .scr ns => ∃ a, v = .ref a ∧ SqL K g.B a (ns.map V.int)
abbrev RVs (K : PySem.W.Frag) (g : GS) : List V → List Val → Prop := Paired (RV K g)
def CellR (K : PySem.W.Frag) (g : GS) (H : Hp) (a : Addr) : Cell → Prop
  | .lst xs => ∃ vs, H a = some (.lst vs) ∧ RVs K g vs xs
  | .obj c ns xs => ∃ dx fs, H a = some (.ins (He.ga K c) dx fs) ∧ fs.map (·.1) = ns ∧ RVs K g (fs.map (·.2)) xs
structure StoreR (K : PySem.W.Frag) (g : GS) (st : Store) (H : Hp) : Prop where
  sub : Same g.B H
  off : ∀ a ∈ g.ad, g.B a = none
  nd : g.ad.Nodup
  cells : Paired (CellR K g H) g.ad st
def EnvR (K : PySem.W.Frag) (g : GS) (env : Env) (σ : L2.St) : Prop := env.length = σ.length ∧ ∀ (i : Nat) (v : Val), env[i]? = some (some v) → ∃ x : V, (show List (Option V) from σ)[i]? = some (some x) ∧ RV K g x v
/-- from one state to a later one -/
structure Step (g : GS) (H : Hp) (g' : GS) (H' : Hp) : Prop where
  sub : Same g.B g'.B
  pre : ∃ l, g'.ad = g.ad ++ l
  newB : ∀ a, g'.B a ≠ none → g.B a ≠ none ∨ H a = none
  newA : ∀ a ∈ g'.ad, a ∈ g.ad ∨ H a = none
  keep : ∀ a o, H a = some o → a ∉ g.ad → H' a = some o
  dom : ∀ a, H a ≠ none → H' a ≠ none
theorem Step.refl (g : GS) (H : Hp) : Step g H g H := ⟨Same.refl _, ⟨[], by simp⟩, fun _ h => .inl h, fun _ h => .inl h, fun _ _ h _ => h, fun _ h => h⟩
theorem Step.trans {g g1 g2 : GS} {H H1 H2 : Hp} (a : Step g H g1 H1) (b : Step g1 H1 g2 H2) : Step g H g2 H2 where
  sub := a.sub.trans b.sub
  pre := by
    obtain ⟨l, e⟩ := a.pre
    obtain ⟨l', e'⟩ := b.pre
    exact ⟨l ++ l', by rw [e', e, List.append_assoc]⟩
  newB := fun x h => by
    rcases b.newB x h with h | h
    · exact a.newB x h
    · refine .inr (Classical.byContradiction fun z => a.dom x z h)
  newA := fun x h => by
    rcases b.newA x h with h | h
    · exact a.newA x h
    · refine .inr (Classical.byContradiction fun z => a.dom x z h)
  keep := fun x o h n => b.keep x o (a.keep x o h n) fun m => by
    rcases a.newA x m with m | m
    · exact n m
    · rw [m] at h; cases h
  dom := fun x h => b.dom x (a.dom x h)
section
variable {K : PySem.W.Frag} {g g' : GS} {H H' : Hp} {st : Store} {env : Env} {σ : L2.St}
theorem RV.mono (s : Same g.B g'.B) (p : ∃ l, g'.ad = g.ad ++ l) : ∀ {v : V} {x : Val}, RV K g v x → RV K g' v x
  | _, .d _, h => RD.mono s h
  | _, .r n, h => by
    obtain ⟨a, e, h⟩ := h
    obtain ⟨l, p⟩ := p
    refine ⟨a, e, ?_⟩
    rw [p, List.getElem?_append_left (List.getElem?_eq_some_iff.mp h).1]
    exact h
  | _, .ty _, h => h
  | _, .scr _, h => by
    obtain ⟨a, e, h⟩ := h
    exact ⟨a, e, s.seq h⟩
theorem RV.step (s : Step g H g' H') {v : V} {x : Val} (h : RV K g v x) : RV K g' v x := h.mono s.sub s.pre
theorem RVs.monoS (s : Same g.B g'.B) (p : ∃ l, g'.ad = g.ad ++ l) {vs : List V} {xs : List Val} (h : RVs K g vs xs) : RVs K g' vs xs := Paired.mapP h fun _ _ r => r.mono s p
theorem RVs.step (s : Step g H g' H') {vs : List V} {xs : List Val} (h : RVs K g vs xs) : RVs K g' vs xs := RVs.monoS s.sub s.pre h
theorem CellR.mono (s : Same g.B g'.B) (p : ∃ l, g'.ad = g.ad ++ l) {a : Addr} (e : H' a = H a) : ∀ {c : Cell}, CellR K g H a c → CellR K g' H' a c
  | .lst _, h => by
    obtain ⟨vs, h1, h2⟩ := h
    exact ⟨vs, e.trans h1, RVs.monoS s p h2⟩
  | .obj _ _ _, h => by
    obtain ⟨dx, fs, h1, h2, h3⟩ := h
    exact ⟨dx, fs, e.trans h1, h2, RVs.monoS s p h3⟩
theorem EnvR.step (s : Step g H g' H') (h : EnvR K g env σ) : EnvR K g' env σ := ⟨h.1, fun i v e => by
  obtain ⟨x, h1, h2⟩ := h.2 i v e
  exact ⟨x, h1, h2.step s⟩⟩
theorem paired_get {α β : Type} {F : α → β → Prop} : ∀ {l₁ : List α} {l₂ : List β} {i : Nat} {y : β}, Paired F l₁ l₂ → l₂[i]? = some y → ∃ x, l₁[i]? = some x ∧ F x y
  | _, _, _, _, .nil, e => by simp at e
  | _, _, 0, _, .cons h r, e => by simp at e; subst e; exact ⟨_, rfl, h⟩
  | _, _, i + 1, d, .cons h r, e => by
    obtain ⟨v, h1, h2⟩ := paired_get (i := i) (y := d) r (by simpa using e)
    exact ⟨v, by simpa using h1, h2⟩
theorem paired_mem {α β : Type} {F G : α → β → Prop} : ∀ {l₁ : List α} {l₂ : List β}, Paired F l₁ l₂ → (∀ x y, x ∈ l₁ → F x y → G x y) → Paired G l₁ l₂
  | _, _, .nil, _ => .nil
  | _, _, .cons h r, f => .cons (f _ _ List.mem_cons_self h) (paired_mem r fun x y m => f x y (List.mem_cons_of_mem _ m))
theorem paired_snoc {α β : Type} {F : α → β → Prop} : ∀ {l₁ : List α} {l₂ : List β} {x : α} {y : β}, Paired F l₁ l₂ → F x y → Paired F (l₁ ++ [x]) (l₂ ++ [y])
  | _, _, _, _, .nil, h => .cons h .nil
  | _, _, _, _, .cons h r, q => .cons h (paired_snoc r q)
theorem StoreR.there (h : StoreR K g st H) {a : Addr} (m : a ∈ g.ad) : H a ≠ none := by
  obtain ⟨i, hi⟩ := List.getElem?_of_mem m
  have hl : g.ad.length = st.length := Paired.length h.cells
  have hi2 : i < st.length := by
    rw [← hl]
    exact (List.getElem?_eq_some_iff.mp hi).1
  obtain ⟨b, hb, hc⟩ := paired_get h.cells (List.getElem?_eq_getElem hi2)
  rw [hi] at hb
  cases hb
  revert hc
  cases st[i] with
  | lst xs =>
    rintro ⟨vs, e, _⟩ z
    rw [e] at z
    cases z
  | obj c ns xs =>
    rintro ⟨dx, fs, e, _⟩ z
    rw [e] at z
    cases z
/-- a cell -/
theorem StoreR.cell (h : StoreR K g st H) {n : Nat} {c : Cell} (e : st[n]? = some c) : ∃ a, g.ad[n]? = some a ∧ CellR K g H a c := paired_get h.cells e
theorem RV.cellAt (h : StoreR K g st H) {n : Nat} {c : Cell} {v : V} (r : RV K g v (.r n)) (e : st[n]? = some c) : ∃ a, v = .ref a ∧ g.ad[n]? = some a ∧ CellR K g H a c := by
  obtain ⟨a, e1, e2⟩ := r
  obtain ⟨b, e3, hc⟩ := h.cell e
  rw [e2] at e3
  cases e3
  exact ⟨a, e1, e2, hc⟩
/-- a new object that never changes -/
theorem StoreR.alloc {p : Addr} (o : HO) (h : StoreR K g st H) (hp : H p = none) : StoreR K ⟨upd g.B p o, g.ad⟩ st (upd H p o) ∧ Step g H ⟨upd g.B p o, g.ad⟩ (upd H p o) := by
  have hB : g.B p = none := h.sub.free hp
  have hA : p ∉ g.ad := fun m => h.there m hp
  have s : Same g.B (upd g.B p o) := fun b u e => by
    rw [upd_ne (ne_of_none e hB)]
    exact e
  refine ⟨⟨fun b u e => ?_, fun a m => ?_, h.nd, ?_⟩, ⟨s, ⟨[], by simp⟩, fun a z => ?_, fun a m => .inl m, fun a u e _ => ?_, fun a z => ?_⟩⟩
  · by_cases hb : b = p
    · subst hb
      have e' : upd g.B b o b = some u := e
      rw [upd_same] at e' ⊢
      exact e'
    · have e' : upd g.B p o b = some u := e
      rw [upd_ne hb] at e' ⊢
      exact h.sub b u e'
  · have ne : a ≠ p := fun z => hA (z ▸ m)
    show upd g.B p o a = none
    rw [upd_ne ne]
    exact h.off a m
  · exact paired_mem h.cells fun a c m q => q.mono (g' := ⟨upd g.B p o, g.ad⟩) s ⟨[], by simp⟩ (upd_ne fun z => hA (by rw [← z]; exact m))
  · by_cases hb : a = p
    · exact .inr (hb ▸ hp)
    · have z' : upd g.B p o a ≠ none := z
      rw [upd_ne hb] at z'
      exact .inl z'
  · rw [upd_ne (ne_of_none e hp)]
    exact e
  · by_cases hb : a = p
    · rw [hb, upd_same]
      simp
    · rw [upd_ne hb]
      exact z
/-- a new cell -/
theorem StoreR.allocC {p : Addr} (o : HO) {c : Cell} (h : StoreR K g st H) (hp : H p = none) (hc : CellR K ⟨g.B, g.ad ++ [p]⟩ (upd H p o) p c) :
    StoreR K ⟨g.B, g.ad ++ [p]⟩ (st ++ [c]) (upd H p o) ∧ Step g H ⟨g.B, g.ad ++ [p]⟩ (upd H p o) := by
  have hB : g.B p = none := h.sub.free hp
  have hA : p ∉ g.ad := fun m => h.there m hp
  refine ⟨⟨fun b u e => ?_, fun a m => ?_, ?_, ?_⟩, ⟨Same.refl _, ⟨[p], rfl⟩, fun a z => .inl z, fun a m => ?_, fun a u e _ => ?_, fun a z => ?_⟩⟩
  · rw [upd_ne (ne_of_none e hB)]
    exact h.sub b u e
  · rcases List.mem_append.mp m with m | m
    · exact h.off a m
    · have e : a = p := by simpa using m
      rw [e]
      exact hB
  · show (g.ad ++ [p]).Nodup
    rw [List.nodup_append]
    refine ⟨h.nd, by simp, fun a m b m' e => ?_⟩
    have e2 : b = p := by simpa using m'
    exact hA (by rw [← e2, ← e]; exact m)
  · exact paired_snoc (paired_mem h.cells fun a c m q => q.mono (g := g) (g' := ⟨g.B, g.ad ++ [p]⟩) (Same.refl g.B) ⟨[p], rfl⟩ (upd_ne fun z => hA (by rw [← z]; exact m))) hc
  · rcases List.mem_append.mp m with m | m
    · exact .inl m
    · have e : a = p := by simpa using m
      exact .inr (e ▸ hp)
  · rw [upd_ne (ne_of_none e hp)]
    exact e
  · by_cases hb : a = p
    · rw [hb, upd_same]
      simp
    · rw [upd_ne hb]
      exact z
theorem paired_set {α β : Type} {F G : α → β → Prop} : ∀ {l₁ : List α} {l₂ : List β} {n : Nat} {a : α} {c : β}, Paired F l₁ l₂ → l₁.Nodup → l₁[n]? = some a → (∀ x y, x ∈ l₁ → x ≠ a → F x y → G x y) → G a c → Paired G l₁ (l₂.set n c)
  | _, _, _, _, _, .nil, _, e, _, _ => by simp at e
  | _, _, 0, a, c, .cons (a := x) h r, nd, e, f, q => by
    simp at e
    subst e
    refine .cons q (paired_mem r fun y z m hz => f y z (List.mem_cons_of_mem _ m) (fun e => ?_) hz)
    exact (List.nodup_cons.mp nd).1 (e ▸ m)
  | _, _, n + 1, a, c, .cons (a := x) h r, nd, e, f, q => by
    have e' : _ = some a := (by simpa using e : _)
    refine .cons (f _ _ List.mem_cons_self (fun z => ?_) h) (paired_set r (List.nodup_cons.mp nd).2 e' (fun y z m => f y z (List.mem_cons_of_mem _ m)) q)
    exact (List.nodup_cons.mp nd).1 (z ▸ List.mem_of_getElem? e')
/-- a cell written -/
theorem StoreR.write {n : Nat} {a : Addr} (o : HO) {c : Cell} (h : StoreR K g st H) (ha : g.ad[n]? = some a) (hc : CellR K g (upd H a o) a c) :
    StoreR K g (st.set n c) (upd H a o) ∧ Step g H g (upd H a o) := by
  have hm : a ∈ g.ad := List.mem_of_getElem? ha
  have hB : g.B a = none := h.off a hm
  refine ⟨⟨fun b u e => ?_, h.off, h.nd, ?_⟩, ⟨Same.refl _, ⟨[], by simp⟩, fun a z => .inl z, fun a m => .inl m, fun b u e nm => ?_, fun b z => ?_⟩⟩
  · rw [upd_ne (ne_of_none e hB)]
    exact h.sub b u e
  · exact paired_set h.cells h.nd ha (fun x y m ne q => q.mono (g := g) (g' := g) (Same.refl g.B) ⟨[], by simp⟩ (upd_ne ne)) hc
  · rw [upd_ne (fun z => nm (by rw [z]; exact hm))]
    exact e
  · by_cases hb : b = a
    · rw [hb, upd_same]
      simp
    · rw [upd_ne hb]
      exact z
end
end IP

set_option maxHeartbeats 4000000
/-! a tuple times 0, times 1 -/
namespace L2
open PySem PySem.Spec PyProof.Rows
theorem tuple_mul1 (l : Addr) (items : Array Value) (n : Nat) (dd : Option Addr) (sl : Array (Option Value)) (u : Tok) :
    Meets (Builtin.«tuple.__mul__» ⟨[.ref l, .int 1 u], []⟩) (fun _ R s => s.heap.get? l = some { cls := .type "tuple", dict := dd, data := .seq items n, slots := sl } ∧
      R (.ok (.ret (Value.ref l))) s) :=
  .of_wp fun prog w A R s h => by
    obtain ⟨hp, g, d, tk, os⟩ := s
    obtain ⟨hl, h⟩ := h
    have f1 := AutoSeq1.idx_int
    wp_walk using wpAny_loadPart' hl
    exact ⟨_, rfl, h⟩
theorem tuple_mul0 (l : Addr) (items : Array Value) (n : Nat) (dd : Option Addr) (sl : Array (Option Value)) (u : Tok) (c1 : (items.isEmpty || (0 : Int) == 1) = false):
    Meets (Builtin.«tuple.__mul__» ⟨[.ref l, .int 0 u], []⟩) (fun _ R s => s.heap.get? l = some { cls := .type "tuple", dict := dd, data := .seq items n, slots := sl } ∧
      R (.ok (.ret (Value.ref s.heap.objs.size))) { s with heap := s.heap.push { cls := Value.type "tuple", data := Data.seq #[] }, toks := s.toks }) :=
  .of_wp fun prog w A R s h => by
    obtain ⟨hp, g, d, tk, os⟩ := s
    obtain ⟨hl, h⟩ := h
    have f1 := AutoSeq1.idx_int
    wp_walk using wpAny_loadPart' hl
    repeat (first
      | (refine wpAny_ite_false (decide_eq_false (by rw [c1]; exact Bool.false_ne_true)) ?_; wp_walk using wpAny_loadPart' hl))
    exact ⟨_, rfl, h⟩
section
variable {X : Cx}
/-- (x, ..) * k, k from 0 on -/
def rRepA (K : PySem.W.Frag) : R2 := fun x y H Q => ∃ l k xs, x = .ref l ∧ y = .int k ∧ SqT K H l xs ∧ xs ≠ [] ∧ 0 ≤ k ∧ k ≤ 1000 ∧ xs.length ≤ 1000 ∧
  (k = 1 → Q (.ref l) H) ∧ (k ≠ 1 → ∀ p, H p = none → Q (.ref p) (upd H p (.tup (List.replicate k.toNat xs).flatten)))
theorem op_repA : OpR X (binaryOp .Mult) (rRepA X.K) := by
  intro pins s σ H x y v u Q I rx ry h
  obtain ⟨l, k, xs, rfl, rfl, hT, hne, h1, h2, hz, q1, q⟩ := h
  by_cases hk : 2 ≤ k
  · exact op_repT pins s σ H _ _ v u Q I rx ry ⟨l, k, xs, rfl, rfl, hT, hne, hk, h2, hz, q (by omega)⟩
  cases rx
  obtain ⟨t, rfl⟩ := ry
  obtain ⟨its, r, ⟨⟨cls, dd, data, sl⟩, ho, hc, n, hd⟩, hs⟩ := I.tuple hT
  simp only at hc hd
  subst hc hd
  have hle : its.length = xs.length := r.length.symm
  have hn : its ≠ [] := fun e => hne (by
    rw [e] at hle
    exact List.eq_nil_of_length_eq_zero hle.symm)
  have hi : its.toArray.isEmpty = false := by
    cases its with
    | nil => exact absurd rfl hn
    | cons a b => rfl
  by_cases hk1 : k = 1
  · subst hk1
    refine wpAny_binaryOp_repeat_ref (T := "tuple") (U := "int") (by decide) ⟨_, ho, rfl⟩ (fun s' => typeIs_int s' 1 t) noFill_tuple_mul F.fills_int_mul F.slot_int_rmul repeat_tuple F.slot_int_index.lookup
      (call_meets F.slot_int_rmul (typeIs_int s 1 t) F.entry_int_rmul (F.args_int_rmul_2 _ _) (int_rmul_tuple 1 t l its.toArray n dd sl)
        ⟨ho, rfl, ⟨_, ho, rfl⟩, call_meets F.slot_tuple_mul ⟨_, ho, rfl⟩ F.entry_tuple_mul (F.args_tuple_mul_2 _ _) (tuple_mul1 l its.toArray n dd sl t) ⟨ho, ?_⟩⟩)
    exact ⟨.ref l, H, I, rfl, q1 rfl⟩
  · have hk0 : k = 0 := by omega
    subst hk0
    have c1 : (its.toArray.isEmpty || (0 : Int) == 1) = false := by
      rw [hi, Bool.false_or]
      rfl
    refine wpAny_binaryOp_repeat_ref (T := "tuple") (U := "int") (by decide) ⟨_, ho, rfl⟩ (fun s' => typeIs_int s' 0 t) noFill_tuple_mul F.fills_int_mul F.slot_int_rmul repeat_tuple F.slot_int_index.lookup
      (call_meets F.slot_int_rmul (typeIs_int s 0 t) F.entry_int_rmul (F.args_int_rmul_2 _ _) (int_rmul_tuple 0 t l its.toArray n dd sl)
        ⟨ho, rfl, ⟨_, ho, rfl⟩, call_meets F.slot_tuple_mul ⟨_, ho, rfl⟩ F.entry_tuple_mul (F.args_tuple_mul_2 _ _) (tuple_mul0 l its.toArray n dd sl t c1) ⟨ho, ?_⟩⟩)
    refine ⟨.ref s.heap.objs.size, _, I.laid (t' := s.toks) (o := .tup []) (fun b ob q => Heap.get?_push_of_some _ q) (Nat.le_refl _) ?_, rfl, q (by omega) _ (I.hok.fresh (Nat.le_refl _))⟩
    exact ⟨Nat.zero_le _, [], .nil, IsTup.new _ _⟩
end
end L2

set_option maxHeartbeats 4000000
/-! IP5: operators by values. -/
namespace IP
open PySem PySem.Spec PyProof.Rows L2
section
variable {K : PySem.W.Frag} {B : Hp} {g : GS} {H : Hp} {st : Store}
theorem RD.int_inv {v : V} {i : Int} (h : RD K B v (.int i)) : v = .int i := by cases h; rfl
theorem RD.bl_inv {v : V} {b : Bool} (h : RD K B v (.bl b)) : v = .bl b := by cases h; rfl
theorem RD.non_inv {v : V} (h : RD K B v .non) : v = .non := by cases h; rfl
theorem RD.tup_inv {v : V} {ds : List DV} (h : RD K B v (.tup ds)) : ∃ a xs, v = .ref a ∧ SqT K B a xs ∧ RDs K B xs ds := by cases h; exact ⟨_, _, rfl, by assumption, by assumption⟩
theorem RD.lst_inv {v : V} {ds : List DV} (h : RD K B v (.lst ds)) : ∃ a xs, v = .ref a ∧ B a = some (.lst xs) ∧ RDs K B xs ds := by cases h; exact ⟨_, _, rfl, by assumption, by assumption⟩
theorem StoreR.sqT (h : StoreR K g st H) {a : Addr} {xs : List V} (q : SqT K g.B a xs) : SqT K H a xs := sqT_mono h.sub q
theorem lim_line {n : Nat} (h : n ≤ lim) : n ≤ sizeLine := Nat.le_trans h (by rw [sizeLine_eq]; decide)
theorem lim_line' {n : Nat} (h : n ≤ lim) : n < sizeLine := Nat.lt_of_le_of_lt h (by rw [sizeLine_eq]; decide)
theorem upd_self {a : Addr} {o : HO} : upd H a o a = some o := upd_same
/-- what a value-level operation wants: Q of every value that stands for v -/
def Wants (K : PySem.W.Frag) (g : GS) (H : Hp) (st : Store) (v : Val) (Q : VK) : Prop := ∀ z g' H', StoreR K g' st H' → Step g H g' H' → RV K g' z v → Q z H'
theorem Wants.here (w : Wants K g H st v Q) (S : StoreR K g st H) {z : V} (r : RV K g z v) : Q z H := w z g H S (Step.refl _ _) r
theorem Wants.lst {ds : List DV} (w : Wants K g H st (.d (.lst ds)) Q) (S : StoreR K g st H) {xs : List V} (r : RDs K g.B xs ds) {p : Addr} (hp : H p = none) : Q (.ref p) (upd H p (.lst xs)) := by
  obtain ⟨S', T⟩ := S.alloc (.lst xs) hp
  exact w _ _ _ S' T (RD.lst upd_self (r.mono T.sub))
theorem Wants.tup {ds : List DV} (w : Wants K g H st (.d (.tup ds)) Q) (S : StoreR K g st H) {xs : List V} (r : RDs K g.B xs ds) {p : Addr} (hp : H p = none) : Q (.ref p) (upd H p (.tup xs)) := by
  obtain ⟨S', T⟩ := S.alloc (.tup xs) hp
  exact w _ _ _ S' T (RD.tup (.of upd_self) (r.mono T.sub))
/-- a two-place operation -/
def rP2 (K : PySem.W.Frag) (F : Val → Val → Store → Option Val) : R2 := fun x y H Q => ∃ g st a b v, StoreR K g st H ∧ RV K g x a ∧ RV K g y b ∧ F a b st = some v ∧ Wants K g H st v Q

section
variable {X : Cx}
theorem mulOk_of {i j : Int} (h : MulOkB i j = true) : CMul i j ∨ CMulW i j := by
  unfold MulOkB at h
  simp only [Bool.or_eq_true, decide_eq_true_eq] at h
  rcases h with (h | h) | h
  · exact .inl (.inl ⟨by omega, by omega⟩)
  · exact .inl (.inr ⟨by omega, by omega⟩)
  · exact .inr h
theorem powOk_of {i j : Int} (h : PowOkB i j = true) : CPow i j := by
  unfold PowOkB at h
  simp only [Bool.and_eq_true, decide_eq_true_eq] at h
  exact ⟨h.1.1, h.1.2, h.2⟩
theorem okI_some {b : Bool} {i : Int} {v : Val} (h : okI b i = some v) : b = true ∧ v = .d (.int i) := by
  unfold okI at h
  split at h
  · cases h
    exact ⟨by assumption, rfl⟩
  · cases h
theorem op_binI {op : Operator} : OpR X (binaryOp op) (rP2 X.K fun a b _ => match a, b with
    | .d (.int i), .d (.int j) => binI op i j
    | _, _ => none) := by
  intro pins s σ H x y v u Q I rx ry h
  obtain ⟨g, st, a, b, r, S, ra, rb, e, w⟩ := h
  dsimp only at e
  split at e
  · rename_i i j
    obtain rfl : x = .int i := RD.int_inv ra
    obtain rfl : y = .int j := RD.int_inv rb
    have fin : ∀ z : Int, r = .d (.int z) → Q (.int z) H := fun z ez => by
      subst ez
      exact w.here S (show RV X.K g (.int z) (.d (.int z)) from RD.int z)
    cases op with
    | Add => cases e; exact op_add pins s σ H _ _ v u Q I rx ry ⟨i, j, rfl, rfl, fin _ rfl⟩
    | Sub => cases e; exact op_sub pins s σ H _ _ v u Q I rx ry ⟨i, j, rfl, rfl, fin _ rfl⟩
    | Mult =>
      obtain ⟨h1, h2⟩ := okI_some e
      rcases mulOk_of h1 with h1 | h1
      · exact op_mul pins s σ H _ _ v u Q I rx ry ⟨i, j, rfl, rfl, h1, fin _ h2⟩
      · exact op_mulW pins s σ H _ _ v u Q I rx ry ⟨i, j, rfl, rfl, h1, fin _ h2⟩
    | FloorDiv =>
      obtain ⟨h1, h2⟩ := okI_some e
      unfold DivOkB at h1
      simp only [Bool.and_eq_true, decide_eq_true_eq] at h1
      exact op_fdivW pins s σ H _ _ v u Q I rx ry ⟨i, j, rfl, rfl, h1, fin _ h2⟩
    | Mod =>
      obtain ⟨h1, h2⟩ := okI_some e
      exact op_mod pins s σ H _ _ v u Q I rx ry ⟨i, j, rfl, rfl, of_decide_eq_true h1, fin _ h2⟩
    | Pow =>
      obtain ⟨h1, h2⟩ := okI_some e
      exact op_pow pins s σ H _ _ v u Q I rx ry ⟨i, j, rfl, rfl, powOk_of h1, fin _ h2⟩
    | LShift =>
      obtain ⟨h1, h2⟩ := okI_some e
      exact op_shl pins s σ H _ _ v u Q I rx ry ⟨i, j, rfl, rfl, powOk_of h1, fin _ h2⟩
    | RShift =>
      obtain ⟨h1, h2⟩ := okI_some e
      exact op_shr pins s σ H _ _ v u Q I rx ry ⟨i, j, rfl, rfl, of_decide_eq_true h1, fin _ h2⟩
    | BitAnd => cases e; exact op_and pins s σ H _ _ v u Q I rx ry ⟨i, j, rfl, rfl, fin _ rfl⟩
    | BitOr => cases e; exact op_or pins s σ H _ _ v u Q I rx ry ⟨i, j, rfl, rfl, fin _ rfl⟩
    | BitXor => cases e; exact op_xor pins s σ H _ _ v u Q I rx ry ⟨i, j, rfl, rfl, fin _ rfl⟩
    | _ => cases e
  · cases e
theorem op_bin {op : Operator} : OpR X (binaryOp op) (rP2 X.K fun a b _ => bin op a b) := by
  intro pins s σ H x y v u Q I rx ry h
  obtain ⟨g, st, a, b, r, S, ra, rb, e, w⟩ := h
  have e' : bin op a b = some r := e
  unfold bin at e'
  split at e'
  · exact op_binI pins s σ H x y v u Q I rx ry ⟨g, st, _, _, r, S, ra, rb, e', w⟩
  · rename_i xs ys
    cases op with
    | Add =>
      dsimp only at e'
      split at e'
      · rename_i hl
        cases e'
        obtain ⟨a, vs, rfl, h1, r1⟩ := RD.lst_inv ra
        obtain ⟨b, ws, rfl, h2, r2⟩ := RD.lst_inv rb
        exact op_cat pins s σ H _ _ v u Q I rx ry ⟨a, b, vs, ws, rfl, rfl, S.sub _ _ h1, S.sub _ _ h2, lim_line (by rw [r1.length, r2.length]; exact hl), fun p hp => w.lst S (r1.append r2) hp⟩
      · cases e'
    | _ => cases e'
  · rename_i xs ys
    cases op with
    | Add =>
      dsimp only at e'
      split at e'
      · rename_i hl
        cases e'
        obtain ⟨a, vs, rfl, h1, r1⟩ := RD.tup_inv ra
        obtain ⟨b, ws, rfl, h2, r2⟩ := RD.tup_inv rb
        refine op_catA pins s σ H _ _ v u Q I rx ry ⟨a, b, vs, ws, rfl, rfl, S.sqT h1, S.sqT h2, lim_line (by rw [r1.length, r2.length]; exact hl), fun z => ?_, fun z1 z => ?_, fun _ _ p hp => w.tup S (r1.append r2) hp⟩
        · subst z
          cases r1
          exact w.here S rb
        · subst z
          cases r2
          exact w.here S (by rw [List.append_nil]; exact ra)
      · cases e'
    | _ => cases e'
  · rename_i xs k
    cases op with
    | Mult =>
      dsimp only at e'
      split at e'
      · rename_i hl
        obtain ⟨k0, k1, hz, hne⟩ := hl
        cases e'
        obtain ⟨a, vs, rfl, h1, r1⟩ := RD.tup_inv ra
        obtain rfl : y = .int k := RD.int_inv rb
        refine op_repA pins s σ H _ _ v u Q I rx ry ⟨a, k, vs, rfl, rfl, S.sqT h1, fun z => hne ?_, k0, k1, by rw [r1.length]; exact hz, fun z => ?_, fun _ p hp => w.tup S (r1.rep _) hp⟩
        · subst z
          cases r1
          rfl
        · subst z
          exact w.here S (show RV X.K g (.ref a) (.d (.tup (List.replicate (1 : Int).toNat xs).flatten)) by
            have e1 : (List.replicate (1 : Int).toNat xs).flatten = xs := by
              show (xs :: []).flatten = xs
              simp
            rw [e1]
            exact ra)
      · cases e'
    | _ => cases e'
  · cases e'

/-! ### one place -/
theorem un_bin {op : UnaryOp} : UnR X (unaryOp op) (fun x H Q => ∃ g st a v, StoreR X.K g st H ∧ RV X.K g x a ∧ un op a = some v ∧ op ≠ .Not ∧ Wants X.K g H st v Q) := by
  intro pins s σ H x v Q I rx h
  obtain ⟨g, st, a, r, S, ra, e, hn, w⟩ := h
  unfold un at e
  split at e
  · rename_i i
    cases e
    obtain rfl : x = .int i := RD.int_inv ra
    exact un_neg pins s σ H _ v Q I rx ⟨i, rfl, w.here S (RD.int _)⟩
  · rename_i i
    cases e
    obtain rfl : x = .int i := RD.int_inv ra
    exact un_inv pins s σ H _ v Q I rx ⟨i, rfl, w.here S (RD.int _)⟩
  · exact absurd rfl hn
  · cases e
end
end
end IP

set_option maxHeartbeats 4000000
/-! IP6: comparisons, truth, items, slices, by values. -/
namespace IP
open PySem PySem.Spec PyProof.Rows L2
mutual
theorem RD.dp {K : PySem.W.Frag} {B H : Hp} (s : Same B H) : ∀ {v : V} {d : DV} {p : PyData}, RD K B v d → d.py = some p → Dp K H v p
  | _, _, p, .non, e => by
    unfold DV.py at e
    cases e
    exact .non
  | _, _, p, .bl b, e => by
    unfold DV.py at e
    cases e
    exact .bl b
  | _, _, p, .int i, e => by
    unfold DV.py at e
    cases e
    exact .int i
  | _, _, p, .str x, e => by
    unfold DV.py at e
    cases e
    exact .str x
  | _, _, p, .tup h r, e => by
    unfold DV.py at e
    split at e
    · rename_i ys e2
      cases e
      exact .tup (sqT_mono s h) (RDs.dp s r e2)
    · cases e
  | _, _, p, .lst h r, e => by
    unfold DV.py at e
    split at e
    · rename_i ys e2
      cases e
      exact .lst (.of (s _ _ h)) (RDs.dp s r e2)
    · cases e
  | _, _, p, .obj h e1 r, e => by
    unfold DV.py at e
    cases e
theorem RDs.dp {K : PySem.W.Frag} {B H : Hp} (s : Same B H) : ∀ {vs : List V} {ds : List DV} {ps : List PyData}, RDs K B vs ds → pyL ds = some ps → DpAll K H vs ps
  | _, _, ps, .nil, e => by
    unfold pyL at e
    cases e
    exact .nil
  | _, _, ps, .cons h r, e => by
    unfold pyL at e
    split at e
    · rename_i y e1
      split at e
      · rename_i ys e2
        cases e
        exact .cons (RD.dp s h e1) (RDs.dp s r e2)
      · cases e
    · cases e
end
section
variable {K : PySem.W.Frag} {B : Hp} {g : GS} {H : Hp} {st : Store}
theorem pure_RVs : ∀ {xs : List Val} {vs : List V} {ds : List DV}, RVs K g vs xs → pureL xs = some ds → RDs K g.B vs ds
  | _, _, ds, .nil, e => by
    unfold pureL at e
    cases e
    exact .nil
  | _, _, ds, .cons (b := b) h r, e => by
    cases b with
    | d x =>
      unfold pureL at e
      split at e
      · rename_i ys e2
        cases e
        exact .cons h (pure_RVs r e2)
      · cases e
    | _ => cases e
theorem RVs.of_d : ∀ {vs : List V} {ds : List DV}, RDs K g.B vs ds → RVs K g vs (ds.map Val.d)
  | _, _, .nil => .nil
  | _, _, .cons h r => .cons h (RVs.of_d r)
theorem pure_map : ∀ (ds : List DV), pureL (ds.map Val.d) = some ds
  | [] => rfl
  | d :: ds => by
    show (match pureL (ds.map Val.d) with
      | some xs => some (d :: xs)
      | none => none) = _
    rw [pure_map ds]
/-- a cell of a list, all data -/
theorem StoreR.lstD (S : StoreR K g st H) {n : Nat} {xs : List Val} {ds : List DV} {v : V} (r : RV K g v (.r n)) (e : st[n]? = some (.lst xs)) (p : pureL xs = some ds) : ∃ a vs, v = .ref a ∧ H a = some (.lst vs) ∧ RDs K g.B vs ds := by
  obtain ⟨a, e1, _, vs, h1, h2⟩ := r.cellAt S e
  exact ⟨a, vs, e1, h1, pure_RVs h2 p⟩
theorem py_of {x : V} {v : Val} {p : PyData} (S : StoreR K g st H) (r : RV K g x v) (e : pyOf v st = some p) : Dp K H x p ∧ SeqAt.shaped p = true := by
  unfold pyOf at e
  split at e
  · rename_i d
    split at e
    · rename_i q e1
      split at e
      · cases e
        exact ⟨RD.dp S.sub r e1, by assumption⟩
      · cases e
    · cases e
  · rename_i n
    split at e
    · rename_i xs e1
      split at e
      · rename_i ds e2
        split at e
        · rename_i ps e3
          split at e
          · cases e
            obtain ⟨a, vs, rfl, h1, h2⟩ := S.lstD r e1 e2
            exact ⟨.lst (.of h1) (RDs.dp S.sub h2 e3), by assumption⟩
          · cases e
        · cases e
      · cases e
    · cases e
  · cases e
theorem isNon_of {x : V} {v : Val} (r : RV K g x v) : isNon v = decide (x = .non) := by
  cases v with
  | d d =>
    cases r with
    | _ => rfl
  | r n =>
    obtain ⟨a, rfl, _⟩ := r
    rfl
  | ty s =>
    cases r
    rfl
  | scr ns =>
    obtain ⟨a, rfl, _⟩ := r
    rfl
def rC (K : PySem.W.Frag) (op : CmpOp) : R2 := fun x y H Q => ∃ g st a b r, StoreR K g st H ∧ RV K g x a ∧ RV K g y b ∧ cmp op a b st = some r ∧ Q (.bl r) H
theorem pr_some {x y : Val} {i j : Int} (h : prI x y = some (i, j)) : x = .d (.int i) ∧ y = .d (.int j) := by
  unfold prI at h
  split at h
  · cases h
    exact ⟨rfl, rfl⟩
  · cases h
variable {X : Cx}
theorem op_cmp {op : CmpOp} (hu : X.A.units + 65 < cLine) : OpR X (compareOp op) (rC X.K op) := by
  intro pins s σ H x y v u Q I rx ry h
  obtain ⟨g, st, a, b, r, S, ra, rb, e, w⟩ := h
  unfold cmp at e
  split at e
  · rename_i i j hp
    obtain ⟨rfl, rfl⟩ := pr_some hp
    obtain rfl : x = .int i := RD.int_inv ra
    obtain rfl : y = .int j := RD.int_inv rb
    have hd : decide (V.int i = V.int j) = decide (i = j) := by
      by_cases z : i = j
      · subst z
        simp
      · simp [z]
    cases op with
    | Lt => cases e; exact op_lt pins s σ H _ _ v u Q I rx ry ⟨i, j, rfl, rfl, w⟩
    | LtE => cases e; exact op_le pins s σ H _ _ v u Q I rx ry ⟨i, j, rfl, rfl, w⟩
    | Gt => cases e; exact op_gt pins s σ H _ _ v u Q I rx ry ⟨i, j, rfl, rfl, w⟩
    | GtE => cases e; exact op_ge pins s σ H _ _ v u Q I rx ry ⟨i, j, rfl, rfl, w⟩
    | Eq => cases e; exact op_eq pins s σ H _ _ v u Q I rx ry ⟨rfl, by rw [hd]; exact w⟩
    | NotEq => cases e; exact op_ne pins s σ H _ _ v u Q I rx ry ⟨rfl, by rw [hd]; exact w⟩
    | _ => cases e
  · unfold cmpD at e
    split at e
    · split at e
      · rename_i p e1
        split at e
        · rename_i q e2
          cases e
          obtain ⟨h1, h2⟩ := py_of S ra e1
          obtain ⟨h3, h4⟩ := py_of S rb e2
          exact op_eqD (by omega) pins s σ H _ _ v u Q I rx ry ⟨p, q, h1, h3, h2, h4, w⟩
        · cases e
      · cases e
    · split at e
      · rename_i p e1
        split at e
        · rename_i q e2
          cases e
          obtain ⟨h1, h2⟩ := py_of S ra e1
          obtain ⟨h3, h4⟩ := py_of S rb e2
          exact op_neD (by omega) pins s σ H _ _ v u Q I rx ry ⟨p, q, h1, h3, h2, h4, w⟩
        · cases e
      · cases e
    · split at e
      · rename_i p e1
        split at e
        · rename_i q e2
          cases e
          obtain ⟨h1, h2⟩ := py_of S ra e1
          obtain ⟨h3, h4⟩ := py_of S rb e2
          exact op_inD hu pins s σ H _ _ v u Q I rx ry ⟨p, q, h1, h3, h2, h4, w⟩
        · cases e
      · cases e
    · split at e
      · rename_i p e1
        split at e
        · rename_i q e2
          cases e
          obtain ⟨h1, h2⟩ := py_of S ra e1
          obtain ⟨h3, h4⟩ := py_of S rb e2
          exact op_notInD hu pins s σ H _ _ v u Q I rx ry ⟨p, q, h1, h3, h2, h4, w⟩
        · cases e
      · cases e
    · split at e
      · rename_i hn
        cases e
        rw [isNon_of rb] at hn
        rw [isNon_of ra] at w
        exact op_isN pins s σ H _ _ v u Q I rx ry ⟨of_decide_eq_true hn, w⟩
      · cases e
    · split at e
      · rename_i hn
        cases e
        rw [isNon_of rb] at hn
        rw [isNon_of ra] at w
        exact op_notN pins s σ H _ _ v u Q I rx ry ⟨of_decide_eq_true hn, w⟩
      · cases e
    · cases e
theorem empty_RDs {xs : List V} {ds : List DV} (r : RDs K B xs ds) : xs.isEmpty = ds.isEmpty := by cases r <;> rfl
theorem empty_RVs {xs : List V} {ds : List Val} (r : RVs K g xs ds) : xs.isEmpty = ds.isEmpty := by cases r <;> rfl
theorem tru_of {x : V} {v : Val} {b : Bool} (S : StoreR K g st H) (r : RV K g x v) (e : tru v st = some b) : TruV K x H b := by
  unfold tru at e
  split at e
  · cases e
    cases RD.non_inv r
    exact rfl
  · cases e
    cases RD.bl_inv r
    exact rfl
  · cases e
    cases RD.int_inv r
    exact rfl
  · cases e
    obtain ⟨a, xs, rfl, h1, h2⟩ := RD.tup_inv r
    exact .inr (.inl ⟨xs, S.sqT h1, by rw [empty_RDs h2]⟩)
  · cases e
    obtain ⟨a, xs, rfl, h1, h2⟩ := RD.lst_inv r
    exact .inl ⟨xs, .of (S.sub _ _ h1), by rw [empty_RDs h2]⟩
  · split at e
    · rename_i xs e1
      cases e
      obtain ⟨a, rfl, _, vs, h1, h2⟩ := r.cellAt S e1
      exact .inl ⟨vs, .of h1, by rw [empty_RVs h2]⟩
    · cases e
  · cases e
/-! ### items -/
theorem atI_RDs {xs : List V} {ds : List DV} {k : Int} {d : DV} (r : RDs K B xs ds) (e : atI ds k = some d) : ∃ v, atI xs k = some v ∧ RD K B v d := by
  unfold atI at e ⊢
  rw [r.length]
  cases q : ixN ds.length k with
  | none => rw [q] at e; cases e
  | some j =>
    rw [q] at e
    exact r.get e
theorem atI_RVs {xs : List V} {ds : List Val} {k : Int} {d : Val} (r : RVs K g xs ds) (e : atI ds k = some d) : ∃ v, atI xs k = some v ∧ RV K g v d := by
  unfold atI at e ⊢
  rw [Paired.length r]
  cases q : ixN ds.length k with
  | none => rw [q] at e; cases e
  | some j =>
    rw [q] at e
    exact paired_get r e
theorem ix_item : IxR X (rP2 X.K item) := by
  intro ve se pins s σ H x y v u Q I rx ry h hsub
  obtain ⟨g, st, a, b, r, S, ra, rb, e, w⟩ := h
  unfold item at e
  split at e
  · rename_i k
    obtain rfl : y = .int k := RD.int_inv rb
    split at e
    · rename_i xs
      split at e
      · rename_i d e1
        cases e
        obtain ⟨p, vs, rfl, h1, h2⟩ := RD.lst_inv ra
        obtain ⟨z, e2, rz⟩ := atI_RDs h2 e1
        exact ix_list ve se pins s σ H _ _ v u Q I rx ry ⟨p, vs, k, z, rfl, rfl, .of (S.sub _ _ h1), e2, w.here S rz⟩ hsub
      · cases e
    · rename_i xs
      split at e
      · rename_i d e1
        cases e
        obtain ⟨p, vs, rfl, h1, h2⟩ := RD.tup_inv ra
        obtain ⟨z, e2, rz⟩ := atI_RDs h2 e1
        exact ix_tup ve se pins s σ H _ _ v u Q I rx ry ⟨p, vs, k, z, rfl, rfl, S.sqT h1, e2, w.here S rz⟩ hsub
      · cases e
    · split at e
      · rename_i xs e0
        split at e
        · rename_i d e1
          cases e
          obtain ⟨p, rfl, _, vs, h1, h2⟩ := ra.cellAt S e0
          obtain ⟨z, e2, rz⟩ := atI_RVs h2 e1
          exact ix_list ve se pins s σ H _ _ v u Q I rx ry ⟨p, vs, k, z, rfl, rfl, .of h1, e2, w.here S rz⟩ hsub
        · cases e
      · cases e
    · cases e
  · cases e
theorem cut_all (ds : List DV) (lo hi : Option Int) (h : HT.sIx ds.length 0 lo = 0 ∧ HT.sIx ds.length ds.length hi = ds.length) : cutD ds lo hi = ds := by
  unfold cutD
  rw [h.1, h.2, List.drop_zero, Nat.sub_zero, List.take_length]
theorem sl_cut : SlR X (fun x lo hi H Q => ∃ g st a r, StoreR X.K g st H ∧ RV X.K g x a ∧ cut a lo hi st = some r ∧ Wants X.K g H st r Q) := by
  intro pins s σ H x v vl vu lo hi sl Q I rx hs pl pu h
  obtain ⟨g, st, a, r, S, ra, e, w⟩ := h
  unfold cut at e
  split at e
  · rename_i xs
    cases e
    obtain ⟨p, vs, rfl, h1, h2⟩ := RD.lst_inv ra
    exact sl_list pins s σ H _ v vl vu lo hi sl Q I rx hs pl pu ⟨p, vs, rfl, .of (S.sub _ _ h1), fun q hq => w.lst S (h2.cut lo hi) hq⟩
  · rename_i xs
    cases e
    obtain ⟨p, vs, rfl, h1, h2⟩ := RD.tup_inv ra
    refine sl_tupA pins s σ H _ v vl vu lo hi sl Q I rx hs pl pu ⟨p, vs, rfl, S.sqT h1, fun z => ?_, fun _ q hq => w.tup S (h2.cut lo hi) hq⟩
    rw [h2.length] at z
    exact w.here S (show RV X.K g (.ref p) (.d (.tup (cutD xs lo hi))) by rw [cut_all xs lo hi z]; exact ra)
  · split at e
    · rename_i xs e0
      split at e
      · rename_i ds e1
        cases e
        obtain ⟨p, vs, rfl, h1, h2⟩ := S.lstD ra e0 e1
        exact sl_list pins s σ H _ v vl vu lo hi sl Q I rx hs pl pu ⟨p, vs, rfl, .of h1, fun q hq => w.lst S (h2.cut lo hi) hq⟩
      · cases e
    · cases e
  · cases e
end
end IP

set_option maxHeartbeats 4000000
/-! IP7: sorting of few items; sorted lists are one. -/
namespace TS
open PySem PyProof.Rows
section
variable {prog : Program} {w : World} {A : Around} {E : Value → Shared → Prop} {s : Shared}
theorem sort_few {a : Addr} {vs : List Value} {n : Nat} {P : PySem.Fin → Shared → Prop} (ho : s.heap.get? a = some (seqObj "list" vs.toArray n)) (h64 : vs.length < 2)
    (h : ∀ out : Array Value, out.toList.Perm vs → P (.done (.ret .none)) { s with heap := sortedHeap s.heap a vs out }) :
    wpAny (model prog w) A (Builtin.«list.sort» ⟨[.ref a], []⟩) P E s := by
  refine SK.plain_sort (r := fun _ => 0) ho (by omega) (fun h2 Q hQ => ?_) fun ps out h1 h2 h3 => ?_
  · omega
  · obtain ⟨p, _⟩ := out_rank (r := fun _ => (0 : Int)) h1 h2 h3
    exact h out p
theorem call_sort_few {a : Addr} {vs : List Value} {n : Nat} {Q : Value → Shared → Prop} (ho : s.heap.get? a = some (seqObj "list" vs.toArray n)) (h64 : vs.length < 2)
    (h : ∀ out : Array Value, out.toList.Perm vs → Q .none { s with heap := sortedHeap s.heap a vs out }) :
    wpAny (model prog w) A (call (.builtin "list.sort") [.ref a]) Q E s :=
  wpAny_call_entry slot_list_sort ⟨_, ho, rfl⟩ entry_list_sort (sort_few ho h64 fun out h1 => ⟨_, rfl, h out h1⟩) (args_list_sort _)
theorem sorted_few {l : Addr} {vs : List Value} {Q : Value → Shared → Prop} (hl : s.heap.IsList l vs.toArray) (h64 : vs.length < 2)
    (h : ∀ out : Array Value, out.toList.Perm vs → Q (.ref (s.heap.objs.size + 1)) { s with heap := sortedAll s.heap vs out }) :
    wpAny (model prog w) A (call (.builtin "sorted") [.ref l]) Q E s := by
  refine Calls.call_function_entry kind_sorted plain_sorted entry_sorted (args_sorted1 _) ?_
  unfold Builtin.«sorted»
  refine wpAny_bind (m := checkCount "sorted" 1 1 _) (wpAny_pure ?_)
  refine wpAny_bind (collect_list hl ?_ (by rw [sizeLine_eq]; omega))
  refine wpAny_bind (wpAny_newList ?_ (by rw [sizeLine_eq]; omega))
  have hsz : ((s.heap.push (seqObj "list" #[] 0)).update s.heap.objs.size (Obj.mapSeq (· ++ vs.toArray))).objs.size = s.heap.objs.size + 1 := by
    rw [Heap.size_update, size_push']
  have hoL : (((s.heap.push (seqObj "list" #[] 0)).update s.heap.objs.size (Obj.mapSeq (· ++ vs.toArray))).push (seqObj "list" vs.toArray 0)).get? (s.heap.objs.size + 1) = some (seqObj "list" vs.toArray 0) := by
    rw [← hsz]; exact Heap.get?_push_size _ rfl
  show wpAny _ _ _ _ _ { s with heap := ((s.heap.push (seqObj "list" #[] 0)).update s.heap.objs.size (Obj.mapSeq (· ++ vs.toArray))).push (seqObj "list" vs.toArray 0) }
  rw [hsz]
  refine wpAny_bind (wpAny_holding (wpAny_call_entry slot_list_sort ⟨_, hoL, rfl⟩ entry_list_sort (sort_few hoL h64 fun out a1 => ⟨_, rfl, ?_⟩) (args_list_sort _)))
  exact wpAny_pure ⟨_, rfl, h out a1⟩
end
end TS
namespace L2
open PySem PySem.Spec PyProof.Rows
section
variable {P : Program} {w : World} {A : Around} {E : Value → Shared → Prop} {s : Shared}
theorem sorted_setF {a : Addr} {L : List (Addr × List Int)} {es : Array (Int × Value)} {ep : Nat} {t : SetTable} {Q : Value → Shared → Prop} (R : SetTR P w s.heap a L es ep t) (hh : A.handled = none)
    (hL : L.length < 2)
    (hQ : ∀ s' p (out : Array Value) (c : Nat), (∀ b o, s.heap.get? b = some o → s'.heap.get? b = some o) → s'.gens = s.gens → s'.os = s.os → s.heap.objs.size ≤ p →
      s'.heap.get? p = some (seqObj "list" out c) → out.toList = L.map (fun q => Value.ref q.1) → Q (.ref p) s') :
    wpAny (model P w) A (call (.builtin "sorted") [.ref a]) Q E s := by
  obtain ⟨o, ho, hex, hd⟩ := R.ob
  have hsz := R.size
  have hfew := R.few
  refine Calls.call_function_entry kind_sorted plain_sorted entry_sorted (args_sorted1 _) ?_
  unfold Builtin.«sorted»
  refine wpAny_bind (m := checkCount "sorted" 1 1 _) (wpAny_pure ?_)
  refine wpAny_bind (collect_set (A := A.in1) hh ⟨o, ho, hex.1, hd⟩ R.fits (by unfold scanBound; omega) R.tab.ris R.led fun s1 vs k1 hz g1 o1 pm => ?_)
  have hes : es.toList.map (·.2) = L.map fun q => Value.ref q.1 := by
    rw [R.rows]
    unfold rowsOf
    rw [List.map_map] <;> rfl
  rw [hes] at pm
  have hvl : vs.length < 2 := by rw [pm.length_eq, List.length_map]; exact hL
  have one : ∀ {l l' : List Value}, l.Perm l' → l'.length < 2 → l = l' := fun {l l'} h z => by
    match l', z with
    | [], _ => exact h.eq_nil
    | [x], _ => exact h.eq_singleton
    | _ :: _ :: _, z => simp at z <;> omega
  refine wpAny_bind (wpAny_newList ?_ (by rw [sizeLine_eq]; omega))
  have hoL : (s1.heap.push (seqObj "list" vs.toArray 0)).get? s1.heap.objs.size = some (seqObj "list" vs.toArray 0) := Heap.get?_push_size _ rfl
  refine wpAny_bind (wpAny_holding (TS.call_sort_few (s := { s1 with heap := s1.heap.push (seqObj "list" vs.toArray 0) }) hoL hvl fun out a1 => ?_))
  obtain ⟨c, hc⟩ := sortedHeap_at (vs := vs) (out := out) hoL
  have e2 : out.toList = L.map fun q => Value.ref q.1 := one (a1.trans pm) (by rw [List.length_map]; exact hL)
  refine wpAny_pure ⟨_, rfl, hQ _ s1.heap.objs.size out c (fun b u e => ?_) g1 o1 hz hc e2⟩
  have q := k1 b u e
  have hlt := Heap.lt_size q
  show (sortedHeap (s1.heap.push (seqObj "list" vs.toArray 0)) s1.heap.objs.size vs out).get? b = some u
  rw [sortedHeap_old (Nat.ne_of_lt hlt) (by rw [size_push']; exact Nat.lt_succ_of_lt hlt)]
  exact Heap.get?_push_of_some _ q
end
end L2
namespace IP
open PySem PySem.Spec PyProof.Rows L2
/-! ### sorted lists are one -/
theorem insI_perm (x : Int) : ∀ xs : List Int, (insI x xs).Perm (x :: xs)
  | [] => .refl _
  | y :: ys => by
    unfold insI
    split
    · exact (List.Perm.cons y (insI_perm x ys)).trans (List.Perm.swap x y ys)
    · exact .refl _
theorem sortI_perm : ∀ xs : List Int, (sortI xs).Perm xs
  | [] => .refl _
  | x :: xs => (insI_perm x _).trans (List.Perm.cons x (sortI_perm xs))
theorem insI_sorted (x : Int) : ∀ xs : List Int, xs.Pairwise (· ≤ ·) → (insI x xs).Pairwise (· ≤ ·)
  | [], _ => List.pairwise_singleton _ _
  | y :: ys, h => by
    obtain ⟨h1, h2⟩ := List.pairwise_cons.mp h
    unfold insI
    split
    · refine List.pairwise_cons.mpr ⟨fun z hz => ?_, insI_sorted x ys h2⟩
      rcases List.mem_cons.mp ((insI_perm x ys).mem_iff.mp hz) with e | e
      · omega
      · exact h1 z e
    · refine List.pairwise_cons.mpr ⟨fun z hz => ?_, h⟩
      rcases List.mem_cons.mp hz with e | e
      · omega
      · have := h1 z e
        omega
theorem sortI_sorted : ∀ xs : List Int, (sortI xs).Pairwise (· ≤ ·)
  | [] => List.Pairwise.nil
  | x :: xs => insI_sorted x _ (sortI_sorted xs)
/-- tuples of like length and bounded ints -/
def Like (d : Nat) (x : List Int) : Prop := x.length = d ∧ TS.Bd bnd x
theorem lex_code : ∀ (x y : List Int), x.length = y.length → TS.Bd bnd x → TS.Bd bnd y → (HT.lexLt x y = true ↔ TS.code bnd x < TS.code bnd y)
  | [], [], _, _, _ => by
    rw [HT.lexLt_nil_nil]
    constructor
    · intro h; cases h
    · intro h; exact absurd h (Int.lt_irrefl _)
  | [], _ :: _, h, _, _ => by simp at h
  | _ :: _, [], h, _, _ => by simp at h
  | a :: x, b :: y, h, hx, hy => by
    have hl : x.length = y.length := by simpa using h
    have ih := lex_code x y hl hx.tail hy.tail
    rw [HT.lexLt_cons]
    by_cases e : a = b
    · subst e
      rw [if_pos rfl, ih]
      exact (TS.code_same hl).symm
    · rw [if_neg e]
      constructor
      · intro q
        exact TS.code_lt hl hx.tail hy.tail (of_decide_eq_true q)
      · intro q
        refine decide_eq_true ?_
        rcases Int.lt_trichotomy a b with z | z | z
        · exact z
        · exact absurd z e
        · have := TS.code_lt hl.symm hy.tail hx.tail z
          omega
theorem code_inj : ∀ (x y : List Int), x.length = y.length → TS.Bd bnd x → TS.Bd bnd y → TS.code bnd x = TS.code bnd y → x = y
  | [], [], _, _, _, _ => rfl
  | [], _ :: _, h, _, _, _ => by simp at h
  | _ :: _, [], h, _, _, _ => by simp at h
  | a :: x, b :: y, h, hx, hy, q => by
    have hl : x.length = y.length := by simpa using h
    have e : a = b := by
      rcases Int.lt_trichotomy a b with z | z | z
      · have := TS.code_lt hl hx.tail hy.tail z
        omega
      · exact z
      · have := TS.code_lt hl.symm hy.tail hx.tail z
        omega
    subst e
    have n1 : ¬ TS.code bnd x < TS.code bnd y := fun z => by
      have := (TS.code_same (d := a) hl).mpr z
      omega
    have n2 : ¬ TS.code bnd y < TS.code bnd x := fun z => by
      have := (TS.code_same (d := a) hl.symm).mpr z
      omega
    rw [code_inj x y hl hx.tail hy.tail (by omega)]
theorem insT_perm (x : List Int) : ∀ xs : List (List Int), (insT x xs).Perm (x :: xs)
  | [] => .refl _
  | y :: ys => by
    unfold insT
    split
    · exact (List.Perm.cons y (insT_perm x ys)).trans (List.Perm.swap x y ys)
    · exact .refl _
theorem sortT_perm : ∀ xs : List (List Int), (sortT xs).Perm xs
  | [] => .refl _
  | x :: xs => (insT_perm x _).trans (List.Perm.cons x (sortT_perm xs))
abbrev CLe (x y : List Int) : Prop := TS.code bnd x ≤ TS.code bnd y
theorem insT_sorted {d : Nat} (x : List Int) (hx : Like d x) : ∀ xs : List (List Int), (∀ y ∈ xs, Like d y) → xs.Pairwise CLe → (insT x xs).Pairwise CLe
  | [], _, _ => List.pairwise_singleton _ _
  | y :: ys, hy, h => by
    obtain ⟨h1, h2⟩ := List.pairwise_cons.mp h
    have hy1 := hy y List.mem_cons_self
    unfold insT
    split
    · rename_i hlt
      have q := (lex_code y x (hy1.1.trans hx.1.symm) hy1.2 hx.2).mp hlt
      refine List.pairwise_cons.mpr ⟨fun z hz => ?_, insT_sorted x hx ys (fun z m => hy z (List.mem_cons_of_mem _ m)) h2⟩
      rcases List.mem_cons.mp ((insT_perm x ys).mem_iff.mp hz) with e | e
      · show TS.code bnd y ≤ TS.code bnd z
        rw [e]
        omega
      · exact h1 z e
    · rename_i hlt
      have q : ¬ TS.code bnd y < TS.code bnd x := fun z => hlt ((lex_code y x (hy1.1.trans hx.1.symm) hy1.2 hx.2).mpr z)
      refine List.pairwise_cons.mpr ⟨fun z hz => ?_, h⟩
      show TS.code bnd x ≤ TS.code bnd z
      rcases List.mem_cons.mp hz with e | e
      · rw [e]
        omega
      · have : TS.code bnd y ≤ TS.code bnd z := h1 z e
        omega
theorem sortT_sorted {d : Nat} : ∀ xs : List (List Int), (∀ y ∈ xs, Like d y) → (sortT xs).Pairwise CLe
  | [], _ => List.Pairwise.nil
  | x :: xs, h => insT_sorted x (h x List.mem_cons_self) _ (fun y m => h y (List.mem_cons_of_mem _ ((sortT_perm xs).mem_iff.mp m))) (sortT_sorted xs fun y m => h y (List.mem_cons_of_mem _ m))
theorem sortT_one {d : Nat} {xs ys : List (List Int)} (h : ∀ y ∈ xs, Like d y) (p : ys.Perm xs) (s : ys.Pairwise CLe) : ys = sortT xs := by
  refine List.Perm.eq_of_pairwise (le := CLe) (fun x y hx hy h1 h2 => ?_) s (sortT_sorted xs h) (p.trans (sortT_perm xs).symm)
  have a := h x (p.mem_iff.mp hx)
  have b := h y ((sortT_perm xs).mem_iff.mp hy)
  exact code_inj x y (a.1.trans b.1.symm) a.2 b.2 (Int.le_antisymm h1 h2)
theorem sortI_one {xs ys : List Int} (p : ys.Perm xs) (s : ys.Pairwise (· ≤ ·)) : ys = sortI xs :=
  List.Perm.eq_of_pairwise (fun x y _ _ h1 h2 => Int.le_antisymm h1 h2) s (sortI_sorted xs) (p.trans (sortI_perm xs).symm)
theorem mem_dedup {x : List Int} : ∀ {xs : List (List Int)}, x ∈ dedup xs ↔ x ∈ xs
  | [] => by
    show x ∈ ([] : List (List Int)) ↔ _
    rfl
  | y :: ys => by
    unfold dedup
    split
    · rename_i h
      rw [mem_dedup, List.mem_cons]
      exact ⟨.inr, fun z => z.elim (fun e => e ▸ h) id⟩
    · rw [List.mem_cons, List.mem_cons, mem_dedup]
theorem nodup_dedup : ∀ xs : List (List Int), (dedup xs).Nodup
  | [] => List.nodup_nil
  | y :: ys => by
    unfold dedup
    split
    · exact nodup_dedup ys
    · rename_i h
      exact List.nodup_cons.mpr ⟨fun m => h (mem_dedup.mp m), nodup_dedup ys⟩
theorem like_of {d : Nat} {xs : List (List Int)} (h : likeT d xs = true) : ∀ y ∈ xs, Like d y := fun y m => by
  have q := List.all_eq_true.mp h y m
  simp only [Bool.and_eq_true, decide_eq_true_eq, List.all_eq_true] at q
  exact ⟨q.1, fun i hi => q.2 i hi⟩
end IP

set_option maxHeartbeats 4000000
/-! IP8: built-ins by values. -/
namespace IP
open PySem PySem.Spec PyProof.Rows L2
section
variable {K : PySem.W.Frag} {B : Hp} {g : GS} {H : Hp} {st : Store}
theorem seq_of {x : V} {v : Val} {xs : List Val} (S : StoreR K g st H) (r : RV K g x v) (e : seqOf v st = some xs) : ∃ a vs, x = .ref a ∧ (SqL K H a vs ∨ SqT K H a vs) ∧ RVs K g vs xs := by
  unfold seqOf at e
  split at e
  · cases e
    obtain ⟨a, vs, rfl, h1, h2⟩ := RD.lst_inv r
    exact ⟨a, vs, rfl, .inl (.of (S.sub _ _ h1)), RVs.of_d h2⟩
  · cases e
    obtain ⟨a, vs, rfl, h1, h2⟩ := RD.tup_inv r
    exact ⟨a, vs, rfl, .inr (S.sqT h1), RVs.of_d h2⟩
  · split at e
    · rename_i ys e1
      cases e
      obtain ⟨a, rfl, _, vs, h1, h2⟩ := r.cellAt S e1
      exact ⟨a, vs, rfl, .inl (.of h1), h2⟩
    · cases e
  · cases e
theorem dseq_of {x : V} {v : Val} {ds : List DV} (S : StoreR K g st H) (r : RV K g x v) (e : dseqOf v st = some ds) : ∃ a vs, x = .ref a ∧ ((isTup v = false ∧ H a = some (.lst vs)) ∨ (isTup v = true ∧ SqT K H a vs)) ∧ RDs K g.B vs ds := by
  unfold dseqOf at e
  split at e
  · cases e
    obtain ⟨a, vs, rfl, h1, h2⟩ := RD.lst_inv r
    exact ⟨a, vs, rfl, .inl ⟨rfl, S.sub _ _ h1⟩, h2⟩
  · cases e
    obtain ⟨a, vs, rfl, h1, h2⟩ := RD.tup_inv r
    exact ⟨a, vs, rfl, .inr ⟨rfl, S.sqT h1⟩, h2⟩
  · split at e
    · rename_i ys e1
      obtain ⟨a, vs, rfl, h1, h2⟩ := S.lstD r e1 e
      exact ⟨a, vs, rfl, .inl ⟨rfl, h1⟩, h2⟩
    · cases e
  · cases e
theorem dlist_of {x : V} {v : Val} {ds : List DV} (S : StoreR K g st H) (r : RV K g x v) (ht : isTup v = false) (e : dseqOf v st = some ds) : ∃ a vs, x = .ref a ∧ H a = some (.lst vs) ∧ RDs K g.B vs ds := by
  obtain ⟨a, vs, h1, h2, h3⟩ := dseq_of S r e
  rcases h2 with ⟨_, h2⟩ | ⟨h2, _⟩
  · exact ⟨a, vs, h1, h2, h3⟩
  · rw [ht] at h2; cases h2
/-- a call with values -/
def rB (K : PySem.W.Frag) (F : List Val → Store → Option Val) : List V → Hp → VK → Prop := fun xs H Q => ∃ g st vs r, StoreR K g st H ∧ RVs K g xs vs ∧ F vs st = some r ∧ Wants K g H st r Q
theorem RVs.one {xs : List V} {v : Val} (r : RVs K g xs [v]) : ∃ x, xs = [x] ∧ RV K g x v := by
  cases r with
  | cons h t =>
    cases t
    exact ⟨_, rfl, h⟩
theorem RVs.two {xs : List V} {v u : Val} (r : RVs K g xs [v, u]) : ∃ x y, xs = [x, y] ∧ RV K g x v ∧ RV K g y u := by
  cases r with
  | cons h t =>
    cases t with
    | cons h2 t =>
      cases t
      exact ⟨_, _, rfl, h, h2⟩
theorem maxI_mem : ∀ (x : Int) (xs : List Int), xs.foldl (fun a b => if a < b then b else a) x ∈ x :: xs ∧ ∀ y ∈ x :: xs, y ≤ xs.foldl (fun a b => if a < b then b else a) x
  | x, [] => ⟨List.mem_cons_self, fun y m => by
    have e : y = x := by simpa using m
    subst e
    exact Int.le_refl _⟩
  | x, z :: xs => by
    obtain ⟨h1, h2⟩ := maxI_mem (if x < z then z else x) xs
    rw [List.foldl_cons]
    refine ⟨?_, fun y m => ?_⟩
    · rcases List.mem_cons.mp h1 with e | e
      · rw [e]
        split
        · exact List.mem_cons_of_mem _ List.mem_cons_self
        · exact List.mem_cons_self
      · exact List.mem_cons_of_mem _ (List.mem_cons_of_mem _ e)
    · have h0 := h2 _ List.mem_cons_self
      rcases List.mem_cons.mp m with e | m
      · subst e
        refine Int.le_trans ?_ h0
        split <;> omega
      · rcases List.mem_cons.mp m with e | m
        · subst e
          refine Int.le_trans ?_ h0
          split <;> omega
        · exact h2 y (List.mem_cons_of_mem _ m)
theorem minI_mem : ∀ (x : Int) (xs : List Int), xs.foldl (fun a b => if b < a then b else a) x ∈ x :: xs ∧ ∀ y ∈ x :: xs, xs.foldl (fun a b => if b < a then b else a) x ≤ y
  | x, [] => ⟨List.mem_cons_self, fun y m => by
    have e : y = x := by simpa using m
    subst e
    exact Int.le_refl _⟩
  | x, z :: xs => by
    obtain ⟨h1, h2⟩ := minI_mem (if z < x then z else x) xs
    rw [List.foldl_cons]
    refine ⟨?_, fun y m => ?_⟩
    · rcases List.mem_cons.mp h1 with e | e
      · rw [e]
        split
        · exact List.mem_cons_of_mem _ List.mem_cons_self
        · exact List.mem_cons_self
      · exact List.mem_cons_of_mem _ (List.mem_cons_of_mem _ e)
    · have h0 := h2 _ List.mem_cons_self
      rcases List.mem_cons.mp m with e | m
      · subst e
        refine Int.le_trans h0 ?_
        split <;> omega
      · rcases List.mem_cons.mp m with e | m
        · subst e
          refine Int.le_trans h0 ?_
          split <;> omega
        · exact h2 y (List.mem_cons_of_mem _ m)
theorem tups_of : ∀ {vs : List V} {ds : List DV} {ts : List (List Int)}, RDs K B vs ds → tupsOf ds = some ts → ∃ ks : List (Addr × List Int), vs = ks.map (fun p => V.ref p.1) ∧ ks.map (·.2) = ts ∧ ∀ p ∈ ks, SqT K B p.1 (p.2.map V.int)
  | _, _, ts, .nil, e => by
    cases e
    exact ⟨[], rfl, rfl, fun p m => absurd m (by simp)⟩
  | _, _, ts, .cons (d := d) h r, e => by
    cases d with
    | tup xs =>
      unfold tupsOf at e
      split at e
      · rename_i is e1
        split at e
        · rename_i ys e2
          cases e
          obtain ⟨ks, h1, h2, h3⟩ := tups_of r e2
          obtain ⟨a, ws, rfl, h4, h5⟩ := RD.tup_inv h
          have e5 := h5.ints e1
          refine ⟨(a, is) :: ks, by rw [h1]; rfl, by rw [List.map_cons, h2], fun p m => ?_⟩
          rcases List.mem_cons.mp m with z | z
          · subst z
            rw [← e5]
            exact h4
          · exact h3 p z
        · cases e
      · cases e
    | _ => cases e
theorem RDs.tups : ∀ {ks : List (Addr × List Int)}, (∀ p ∈ ks, SqT K B p.1 (p.2.map V.int)) → RDs K B (ks.map fun p => V.ref p.1) ((ks.map (·.2)).map tI)
  | [], _ => .nil
  | p :: ks, h => .cons (.tup (h p List.mem_cons_self) (RDs.of_ints _)) (RDs.tups fun q m => h q (List.mem_cons_of_mem _ m))
variable {X : Cx}
theorem cr_len' : CallR X (.builtin "len") (rB X.K fun vs st => match vs with
    | [v] => biLen v st
    | _ => none) := by
  intro pins s σ H xs us Q I rv h
  obtain ⟨g, st, vs, r, S, rs, e, w⟩ := h
  dsimp only at e
  split at e
  · obtain ⟨x, rfl, rx⟩ := rs.one
    unfold biLen at e
    split at e
    · rename_i ys e1
      cases e
      obtain ⟨a, ws, rfl, h1, h2⟩ := seq_of S rx e1
      refine call_len_seq pins s σ H _ us Q I rv ⟨a, ws, rfl, h1, ?_⟩
      rw [Paired.length h2]
      exact w.here S (RD.int _)
    · cases e
  · cases e
theorem cr_ints {f : Value} {F : List Int → Option Int} {r0 : List V → Hp → VK → Prop} (h0 : CallR X f r0) (hf : ∀ (a : Addr) (is : List Int) (i : Int) (H : Hp) (Q : VK), H a = some (.lst (is.map V.int)) → F is = some i → Q (.int i) H → r0 [.ref a] H Q) :
    CallR X f (rB X.K fun vs st => match vs with
    | [v] => biInts v F st
    | _ => none) := by
  intro pins s σ H xs us Q I rv h
  obtain ⟨g, st, vs, r, S, rs, e, w⟩ := h
  dsimp only at e
  split at e
  · obtain ⟨x, rfl, rx⟩ := rs.one
    unfold biInts at e
    split at e
    · cases e
    · rename_i ht
      split at e
      · rename_i ds e1
        split at e
        · rename_i is e2
          split at e
          · rename_i i e3
            cases e
            obtain ⟨a, ws, rfl, h1, h2⟩ := dlist_of S rx (by simpa using ht) e1
            refine h0 pins s σ H _ us Q I rv (hf a is i H Q ?_ e3 (w.here S (RD.int _)))
            rw [h1, h2.ints e2]
          · cases e
        · cases e
      · cases e
  · cases e
theorem cr_sumT (hc : X.calm = true) : CallR X (.builtin "sum") (fun us H Q => ∃ (a : Addr) (is : List Int), us = [V.ref a] ∧ SqT X.K H a (is.map V.int) ∧ Q (.int is.sum) H) := by
  intro pins s σ H vs us Q I r h
  obtain ⟨a, ns, rfl, hs, q⟩ := h
  obtain ⟨its, rv, ⟨o, ho, hcl, n, hd⟩, _⟩ := I.tuple hs
  rw [Vals.ref1 r]
  have hi := rv.ints
  obtain ⟨xs, e⟩ := hi.allInts.items
  have hn : numsOf (intItems xs).toList = ns := by rw [← e]; exact hi.numsOf
  rw [nums_intItems] at hn
  have hl : s.heap.IsTuple a its.toArray := ⟨o, ho, hcl, n, hd⟩
  rw [e] at hl
  refine PySem.W.ktm_sumG (I.ok.hd hc) hl fun h' tk t' hk => ?_
  rw [preSum_eq, List.take_of_length_le (by simp), hn]
  exact ⟨.int _, H, I.kept hk, ⟨_, rfl⟩, q⟩
theorem cr_sum' (hc : X.calm = true) : CallR X (.builtin "sum") (rB X.K fun vs st => match vs with
    | [v] => biSum v st
    | _ => none) := by
  intro pins s σ H xs us Q I rv h
  obtain ⟨g, st, vs, r, S, rs, e, w⟩ := h
  dsimp only at e
  split at e
  · obtain ⟨x, rfl, rx⟩ := rs.one
    unfold biSum at e
    split at e
    · rename_i ds e1
      split at e
      · rename_i is e2
        cases e
        obtain ⟨a, ws, rfl, h1, h2⟩ := dseq_of S rx e1
        rcases h1 with ⟨_, h1⟩ | ⟨_, h1⟩
        · refine cr_sum hc pins s σ H _ us Q I rv ⟨a, is, rfl, .of ?_, w.here S (RD.int _)⟩
          rw [h1, h2.ints e2]
        · refine cr_sumT hc pins s σ H _ us Q I rv ⟨a, is, rfl, ?_, w.here S (RD.int _)⟩
          rw [← h2.ints e2]
          exact h1
      · cases e
    · cases e
  · cases e
theorem cr_max' (hc : X.calm = true) : CallR X (.builtin "max") (rB X.K fun vs st => match vs with
    | [v] => biInts v (fun is => if is.isEmpty then none else some (maxI is)) st
    | _ => none) := cr_ints (cr_max hc) fun a is i H Q h e q => by
  cases is with
  | nil => cases e
  | cons x xs =>
    cases e
    obtain ⟨h1, h2⟩ := maxI_mem x xs
    refine ⟨a, x :: xs, rfl, .of h, Nat.succ_pos _, fun m hm hy => ?_⟩
    have e : m = maxI (x :: xs) := Int.le_antisymm (h2 m hm) (hy _ h1)
    rw [e]
    exact q
theorem cr_min' (hc : X.calm = true) : CallR X (.builtin "min") (rB X.K fun vs st => match vs with
    | [v] => biInts v (fun is => if is.isEmpty then none else some (minI is)) st
    | _ => none) := cr_ints (cr_min hc) fun a is i H Q h e q => by
  cases is with
  | nil => cases e
  | cons x xs =>
    cases e
    obtain ⟨h1, h2⟩ := minI_mem x xs
    refine ⟨a, x :: xs, rfl, .of h, Nat.succ_pos _, fun m hm hy => ?_⟩
    have e : m = minI (x :: xs) := Int.le_antisymm (hy _ h1) (h2 m hm)
    rw [e]
    exact q
theorem cr_bls {f : Value} {F : List Bool → Bool} {r0 : List V → Hp → VK → Prop} (h0 : CallR X f r0) (hf : ∀ (a : Addr) (is : List Bool) (H : Hp) (Q : VK), H a = some (.lst (is.map V.bl)) → Q (.bl (F is)) H → r0 [.ref a] H Q) :
    CallR X f (rB X.K fun vs st => match vs with
    | [v] => biBls v F st
    | _ => none) := by
  intro pins s σ H xs us Q I rv h
  obtain ⟨g, st, vs, r, S, rs, e, w⟩ := h
  dsimp only at e
  split at e
  · obtain ⟨x, rfl, rx⟩ := rs.one
    unfold biBls at e
    split at e
    · cases e
    · rename_i ht
      split at e
      · rename_i ds e1
        split at e
        · rename_i is e2
          cases e
          obtain ⟨a, ws, rfl, h1, h2⟩ := dlist_of S rx (by simpa using ht) e1
          refine h0 pins s σ H _ us Q I rv (hf a is H Q ?_ (w.here S (RD.bl _)))
          rw [h1, h2.bls e2]
        · cases e
      · cases e
  · cases e
theorem cr_any' (hc : X.calm = true) : CallR X (.builtin "any") (rB X.K fun vs st => match vs with
    | [v] => biBls v (fun bs => bs.any id) st
    | _ => none) := cr_bls (cr_any hc) fun a is H Q h q => ⟨a, is, rfl, .of h, q⟩
theorem cr_all' (hc : X.calm = true) : CallR X (.builtin "all") (rB X.K fun vs st => match vs with
    | [v] => biBls v (fun bs => bs.all id) st
    | _ => none) := cr_bls (cr_all hc) fun a is H Q h q => ⟨a, is, rfl, .of h, q⟩
theorem cr_tuple' : CallR X (.type "tuple") (rB X.K fun vs st => match vs with
    | [v] => biTuple v st
    | _ => none) := by
  intro pins s σ H xs us Q I rv h
  obtain ⟨g, st, vs, r, S, rs, e, w⟩ := h
  dsimp only at e
  split at e
  · rename_i v
    obtain ⟨x, rfl, rx⟩ := rs.one
    unfold biTuple at e
    split at e
    · rename_i ds e1
      cases e
      obtain ⟨a, ws, rfl, h1, h2⟩ := dseq_of S rx e1
      refine call_tuple_of pins s σ H _ us Q I rv ⟨a, ws, rfl, ?_⟩
      rcases h1 with ⟨_, h1⟩ | ⟨ht, h1⟩
      · exact .inl ⟨.of h1, fun l hl => w.tup S h2 hl⟩
      · refine .inr ⟨h1, w.here S ?_⟩
        cases v with
        | d d =>
          cases d with
          | tup ys =>
            have e2 : dseqOf (.d (.tup ys)) st = some ys := rfl
            rw [e2] at e1
            cases e1
            exact rx
          | _ => cases ht
        | _ => cases ht
    · cases e
  · cases e
theorem cr_list' : CallR X (.type "list") (rB X.K fun vs st => match vs with
    | [v] => biList v st
    | _ => none) := by
  intro pins s σ H xs us Q I rv h
  obtain ⟨g, st, vs, r, S, rs, e, w⟩ := h
  dsimp only at e
  split at e
  · rename_i v
    obtain ⟨x, rfl, rx⟩ := rs.one
    unfold biList at e
    split at e
    · rename_i ds e1
      cases e
      obtain ⟨a, ws, rfl, h1, h2⟩ := dseq_of S rx e1
      refine call_list_of pins s σ H _ us Q I rv ⟨a, ws, rfl, ?_, fun l hl => w.lst S h2 hl⟩
      rcases h1 with ⟨_, h1⟩ | ⟨ht, h1⟩
      · exact .inl (.of h1)
      · exact .inr h1
    · cases e
  · cases e
theorem cr_int' : CallR X (.type "int") (rB X.K fun vs st => match vs with
    | [v] => biInt v st
    | _ => none) := by
  intro pins s σ H xs us Q I rv h
  obtain ⟨g, st, vs, r, S, rs, e, w⟩ := h
  dsimp only at e
  split at e
  · rename_i v
    obtain ⟨x, rfl, rx⟩ := rs.one
    unfold biInt at e
    split at e
    · rename_i i
      cases e
      obtain rfl : x = .int i := RD.int_inv rx
      exact call_int1 pins s σ H _ us Q I rv (.inl ⟨i, rfl, w.here S (RD.int _)⟩)
    · rename_i b
      cases e
      obtain rfl : x = .bl b := RD.bl_inv rx
      refine call_int1 pins s σ H _ us Q I rv (.inr ⟨b, rfl, w.here S ?_⟩)
      have e2 : b2i b = (if b = true then 1 else 0) := by cases b <;> rfl
      show RD X.K g.B (.int (b2i b)) (.int (if b = true then 1 else 0))
      rw [e2]
      exact RD.int _
    · cases e
  · cases e
theorem cr_abs' : CallR X (.builtin "abs") (rB X.K fun vs st => match vs with
    | [v] => biAbs v st
    | _ => none) := by
  intro pins s σ H xs us Q I rv h
  obtain ⟨g, st, vs, r, S, rs, e, w⟩ := h
  dsimp only at e
  split at e
  · rename_i v
    obtain ⟨x, rfl, rx⟩ := rs.one
    unfold biAbs at e
    split at e
    · rename_i i
      cases e
      obtain rfl : x = .int i := RD.int_inv rx
      exact call_abs pins s σ H _ us Q I rv ⟨i, rfl, w.here S (RD.int _)⟩
    · cases e
  · cases e
theorem cr_2 {f : Value} {F : Int → Int → Int} {r0 : List V → Hp → VK → Prop} (h0 : CallR X f r0) (hf : ∀ (i j : Int) (H : Hp) (Q : VK), Q (.int (F i j)) H → r0 [.int i, .int j] H Q) :
    CallR X f (rB X.K fun vs st => match vs with
    | [x, y] => bi2 F x y st
    | _ => none) := by
  intro pins s σ H xs us Q I rv h
  obtain ⟨g, st, vs, r, S, rs, e, w⟩ := h
  dsimp only at e
  split at e
  · rename_i v u
    obtain ⟨x, y, rfl, rx, ry⟩ := rs.two
    unfold bi2 at e
    split at e
    · rename_i i j
      cases e
      obtain rfl : x = .int i := RD.int_inv rx
      obtain rfl : y = .int j := RD.int_inv ry
      exact h0 pins s σ H _ us Q I rv (hf i j H Q (w.here S (RD.int _)))
    · cases e
  · cases e
theorem cr_max2' (hc : X.calm = true) : CallR X (.builtin "max") (rB X.K fun vs st => match vs with
    | [x, y] => bi2 (fun i j => if j > i then j else i) x y st
    | _ => none) := cr_2 (call_max2 hc) fun i j H Q q => ⟨i, j, rfl, q⟩
theorem cr_min2' (hc : X.calm = true) : CallR X (.builtin "min") (rB X.K fun vs st => match vs with
    | [x, y] => bi2 (fun i j => if j < i then j else i) x y st
    | _ => none) := cr_2 (call_min2 hc) fun i j H Q q => ⟨i, j, rfl, q⟩
end
end IP

set_option maxHeartbeats 4000000
/-! IP9: sorted, sorted(set), isinstance by values. -/
namespace IP
open PySem PySem.Spec PyProof.Rows L2
section
variable {K : PySem.W.Frag} {B : Hp} {g : GS} {H : Hp} {st : Store} {X : Cx}
/-- sorted of fewer than two items -/
theorem cr_sortedF : CallR X (.builtin "sorted") (fun vs H Q => ∃ (a : Addr) (xs : List V), vs = [V.ref a] ∧ SqL X.K H a xs ∧ xs.length < 2 ∧ ∀ p, H p = none → Q (.ref p) (upd H p (.lst xs))) := by
  intro pins s σ H vs us Q I r h
  obtain ⟨a, xs, rfl, hs, h2, q⟩ := h
  obtain ⟨its, rv, hl, hz⟩ := I.list hs
  rw [Vals.ref1 r]
  refine TS.sorted_few hl.isList (by rw [← rv.length]; exact h2) fun out h1 => ?_
  have e : out.toList = its := by
    match its, rv.length, h1 with
    | [], _, h1 => exact h1.eq_nil
    | [x], _, h1 => exact h1.eq_singleton
    | _ :: _ :: _, e, _ =>
      rw [e] at h2
      simp at h2
      omega
  obtain ⟨ep, he'⟩ := PyProof.Rows.sortedAll_at s.heap its out
  exact ⟨.ref _, upd H (s.heap.objs.size + 1) (.lst xs), I.laid (t' := s.toks) (fun _ _ => PyProof.Rows.sortedAll_old) (Nat.le_succ _) ⟨hz, out.toList, ep, by rw [e]; exact rv, he'⟩, rfl, q _ (I.hok.fresh (Nat.le_succ _))⟩
theorem few_one {ts : List (List Int)} (h : ts.length < 2) : sortT ts = ts := by
  match ts, h with
  | [], _ => rfl
  | [x], _ => rfl
  | _ :: _ :: _, h =>
    simp at h
    omega
/-- the ints of a tuple -/
noncomputable def valOf (K : PySem.W.Frag) (H : Hp) (x : V) : List Int := by
  classical
  exact if h : ∃ n, TupI K H x n then h.choose else []
theorem valOf_eq {pins : List (Addr × Obj)} {σ : L2.St} {s : Shared} (I : Inv X pins σ H s) {x : V} {n : List Int} (h : TupI X.K H x n) : valOf X.K H x = n := by
  have h' : ∃ n, TupI X.K H x n := ⟨n, h⟩
  have e : valOf X.K H x = h'.choose := by
    unfold valOf
    rw [dif_pos h']
  rw [e]
  obtain ⟨t, e1, q1⟩ := h'.choose_spec
  obtain ⟨t', e2, q2⟩ := h
  rw [e1] at e2
  cases e2
  have e3 := I.tuple_inj q1 q2
  have inj : ∀ {a b : List Int}, a.map V.int = b.map V.int → a = b := by
    intro a
    induction a with
    | nil =>
      intro b e
      cases b with
      | nil => rfl
      | cons _ _ => cases e
    | cons x a ih =>
      intro b e
      cases b with
      | nil => cases e
      | cons y b =>
        rw [List.map_cons, List.map_cons] at e
        injection e with e4 e5
        injection e4 with e4
        rw [e4, ih e5]
  exact inj e3
theorem RDs.ofVals {K : PySem.W.Frag} {B : Hp} {f : V → List Int} : ∀ {ys : List V}, (∀ y ∈ ys, RD K B y (tI (f y))) → RDs K B ys ((ys.map f).map tI)
  | [], _ => .nil
  | y :: ys, h => .cons (h y List.mem_cons_self) (RDs.ofVals fun z m => h z (List.mem_cons_of_mem _ m))
theorem cr_sorted' : CallR X (.builtin "sorted") (rB X.K fun vs st => match vs with
    | [v] => biSorted v st
    | _ => none) := by
  intro pins s σ H xs us Q I rv h
  obtain ⟨g, st, vs, r, S, rs, e, w⟩ := h
  dsimp only at e
  split at e
  · rename_i v
    obtain ⟨x, rfl, rx⟩ := rs.one
    unfold biSorted at e
    split at e
    · cases e
    · rename_i ht
      split at e
      · rename_i ds e1
        obtain ⟨a, ws, rfl, h1, h2⟩ := dlist_of S rx (by simpa using ht) e1
        split at e
        · rename_i h64
          split at e
          · rename_i ts e2
            obtain ⟨ks, k1, k2, k3⟩ := tups_of h2 e2
            have kl : ks.length = ts.length := by rw [← k2, List.length_map]
            split at e
            · rename_i hg
              cases e
              by_cases hf : ts.length < 2
              · refine cr_sortedF pins s σ H _ us Q I rv ⟨a, ws, rfl, .of h1, by rw [k1, List.length_map, kl]; exact hf, fun p hp => ?_⟩
                rw [few_one hf] at w
                refine w.lst S ?_ hp
                rw [k1, ← k2]
                exact RDs.tups k3
              · have hg1 : likeT (headLen ts) ts = true ∧ 0 < headLen ts := by
                  simp only [Bool.or_eq_true, Bool.and_eq_true, decide_eq_true_eq] at hg
                  rcases hg with hg | hg
                  · exact hg
                  · exact absurd hg hf
                have lk := like_of hg1.1
                have ti : ∀ p ∈ ks, TupI X.K H (.ref p.1) p.2 := fun p m => ⟨p.1, rfl, S.sqT (k3 p m)⟩
                refine cr_sortT (d := headLen ts) (B := bnd) hg1.2 pins s σ H _ us Q I rv ⟨a, ws, rfl, .of h1, by rw [h2.length]; exact h64, fun y hy => ?_, fun ys p pm pw hp => ?_⟩
                · rw [k1] at hy
                  obtain ⟨q, hq, rfl⟩ := List.mem_map.mp hy
                  have := lk q.2 (by rw [← k2]; exact List.mem_map.mpr ⟨q, hq, rfl⟩)
                  exact ⟨q.2, ti q hq, this.1, this.2⟩
                · have hys : ∀ y ∈ ys, ∃ q ∈ ks, y = .ref q.1 ∧ valOf X.K H y = q.2 := fun y hy => by
                    have hy2 := pm.mem_iff.mp hy
                    rw [k1] at hy2
                    obtain ⟨q, hq, rfl⟩ := List.mem_map.mp hy2
                    exact ⟨q, hq, rfl, valOf_eq I (ti q hq)⟩
                  have e5 : ws.map (valOf X.K H) = ts := by
                    rw [k1, ← k2, List.map_map]
                    exact List.map_congr_left fun q hq => valOf_eq I (ti q hq)
                  have e6 : ys.map (valOf X.K H) = sortT ts := by
                    refine sortT_one lk (by rw [← e5]; exact pm.map _) ?_
                    rw [List.pairwise_map]
                    refine List.Pairwise.imp_of_mem (fun {y z} my mz hyz => ?_) pw
                    obtain ⟨q, hq, ey, vy⟩ := hys y my
                    obtain ⟨q', hq', ez, vz⟩ := hys z mz
                    show TS.code bnd _ ≤ TS.code bnd _
                    rw [vy, vz]
                    subst ey ez
                    exact hyz _ _ (ti q hq) (ti q' hq')
                  refine w.lst S ?_ hp
                  rw [← e6]
                  refine RDs.ofVals fun y hy => ?_
                  obtain ⟨q, hq, ey, vy⟩ := hys y hy
                  rw [vy, ey]
                  exact .tup (k3 q hq) (RDs.of_ints _)
            · cases e
          · split at e
            · rename_i is e3
              cases e
              have e4 := h2.ints e3
              subst e4
              refine cr_sorted pins s σ H _ us Q I rv ⟨a, is, rfl, .of h1, by have := h2.length; rw [List.length_map] at this; omega, fun is' p pm pw hp => ?_⟩
              rw [sortI_one pm pw]
              exact w.lst S (RDs.of_ints _) hp
            · cases e
        · cases e
      · cases e
  · cases e
/-! ### sorted(set(xs)) -/
theorem cr_sortedTF (hc : X.calm = true) : CallR X (.builtin "sorted") (fun vs H Q => ∃ (a : Addr) (L : List (Addr × List Int)), vs = [V.ref a] ∧ H a = some (SetTO X.prog X.w a L) ∧ (∀ p ∈ L, SqT X.K H p.1 (p.2.map V.int)) ∧ (∀ p ∈ L, p.2 = []) ∧
    ∀ p, (L.map (·.2)).Nodup → H p = none → Q (.ref p) (upd H p (.lst (L.map fun q => V.ref q.1)))) := by
  intro pins s σ H vs us Q I r h
  obtain ⟨a, L, rfl, ha, hk, h0, q⟩ := h
  have R0 : SetT0 X.prog X.w s.heap a L := (I.hok a _ ha).1
  obtain ⟨es, ep, t, R⟩ := R0.full fun p hp => I.isT (hk p hp)
  have nd : (L.map (·.2)).Nodup := by
    obtain ⟨_, _, _, _, _, _, z, _⟩ := R0.ex
    exact z
  have hd : L.length < 2 := by
    match L, h0, nd with
    | [], _, _ => simp
    | [x], _, _ => simp
    | x :: y :: t, h0, nd =>
      have e1 := h0 x (by simp)
      have e2 := h0 y (by simp)
      simp [e1, e2] at nd
  rw [Vals.ref1 r]
  refine sorted_setF R (I.ok.hd hc) hd fun s' p out c k g o hp hg hout => ?_
  have hlen : (L.map fun q => V.ref q.1).length ≤ sizeLine := by rw [List.length_map, sizeLine_eq]; omega
  have hn : H p = none := I.hok.fresh hp
  have hv : Vals (L.map fun q => V.ref q.1) out.toList := by rw [hout]; exact vals_of_refs L
  have J : Inv X pins σ (upd H p (.lst (L.map fun q => V.ref q.1))) { s with heap := s'.heap, gens := s'.gens, drawn := s'.drawn, toks := s'.toks } :=
    I.call (ch := []) (Un.laid k hp hn) (I.hok.laid k hp ⟨hlen, out.toList, c, hv, hg⟩) (by rw [g]; exact I.bare) (fun _ z => nomatch z)
  have e : s' = { s with heap := s'.heap, gens := s'.gens, drawn := s'.drawn, toks := s'.toks } := by
    cases s'
    cases s
    cases o
    rfl
  rw [e]
  exact ⟨.ref p, _, J, rfl, q p nd hn⟩
/-- what set(xs) and sorted behind it want, from one place -/
theorem sortedSet_reads {v : Val} {r : Val} {x : V} {Q : VK} (S : StoreR K g st H) (rx : RV K g x v) (e : biSortedSet v st = some r) (w : Wants K g H st r Q) {P : Program} {wd : World} :
    rSetOfT K P wd [x] H fun y H1 =>
      (∃ (a : Addr) (L : List (Addr × List Int)) (d : Nat) (B : Int), [y] = [V.ref a] ∧ H1 a = some (SetTO P wd a L) ∧ (∀ p ∈ L, SqT K H1 p.1 (p.2.map V.int)) ∧ 1 ≤ d ∧ (∀ p ∈ L, p.2.length = d ∧ TS.Bd B p.2) ∧
        ∀ (L' : List (Addr × List Int)) (p : Addr), L'.Perm L → (L'.map (·.2)).Nodup → L'.length < 64 → L'.Pairwise (fun q r => TS.code B q.2 ≤ TS.code B r.2) → H1 p = none → Q (.ref p) (upd H1 p (.lst (L'.map fun q => V.ref q.1)))) ∨
      (∃ (a : Addr) (L : List (Addr × List Int)), [y] = [V.ref a] ∧ H1 a = some (SetTO P wd a L) ∧ (∀ p ∈ L, SqT K H1 p.1 (p.2.map V.int)) ∧ (∀ p ∈ L, p.2 = []) ∧
        ∀ p, (L.map (·.2)).Nodup → H1 p = none → Q (.ref p) (upd H1 p (.lst (L.map fun q => V.ref q.1)))) := by
  unfold biSortedSet at e
  split at e
  · cases e
  · rename_i ht
    split at e
    · rename_i ds e1
      obtain ⟨l, ws, rfl, h1, h2⟩ := dlist_of S rx (by simpa using ht) e1
      split at e
      · rename_i h64
        split at e
        · rename_i ts e2
          obtain ⟨ks, k1, k2, k3⟩ := tups_of h2 e2
          have kl : ks.length = ts.length := by rw [← k2, List.length_map]
          have dl : ds.length = ts.length := by rw [← h2.length, k1, List.length_map, kl]
          split at e
          · rename_i hg
            cases e
            have lk := like_of hg
            refine ⟨l, ks, rfl, .of (by rw [← k1]; exact h1), fun p m => S.sqT (k3 p m), by omega, fun a L ha hs hall => ?_⟩
            obtain ⟨S1, T1⟩ := S.alloc (SetTO P wd a L) ha
            have tk : ∀ p ∈ L, SqT K (upd g.B a (SetTO P wd a L)) p.1 (p.2.map V.int) := fun p m => sqT_mono T1.sub (k3 p (hs p m))
            have w1 : Wants K ⟨upd g.B a (SetTO P wd a L), g.ad⟩ (upd H a (SetTO P wd a L)) st (.d (.lst ((sortT (dedup ts)).map tI))) Q := fun z g' H' S' T' rz => w z g' H' S' (T1.trans T') rz
            have inL : ∀ k, k ∈ L.map (·.2) ↔ k ∈ ts := fun k => by
              constructor
              · intro m
                obtain ⟨p, hp, rfl⟩ := List.mem_map.mp m
                rw [← k2]
                exact List.mem_map.mpr ⟨p, hs p hp, rfl⟩
              · intro m
                rw [← k2] at m
                obtain ⟨p, hp, rfl⟩ := List.mem_map.mp m
                exact hall p hp
            have lkL : ∀ p ∈ L, Like (headLen ts) p.2 := fun p m => lk p.2 ((inL _).mp (List.mem_map.mpr ⟨p, m, rfl⟩))
            -- the end, from a list of the same, sorted
            have fin : ∀ (L' : List (Addr × List Int)) (p : Addr), L'.Perm L → (L'.map (·.2)).Nodup → (L'.map (·.2)).Pairwise CLe → upd H a (SetTO P wd a L) p = none → Q (.ref p) (upd (upd H a (SetTO P wd a L)) p (.lst (L'.map fun q => V.ref q.1))) := fun L' p pm nd pw hp => by
              have e5 : L'.map (·.2) = sortT (dedup ts) := by
                refine sortT_one (d := headLen ts) (fun y m => lk y (mem_dedup.mp m)) ?_ pw
                refine (List.perm_ext_iff_of_nodup nd (nodup_dedup ts)).mpr fun k => ?_
                rw [mem_dedup, ← inL]
                exact (pm.map (·.2)).mem_iff
              refine w1.lst S1 ?_ hp
              rw [← e5]
              exact RDs.tups fun q m => tk q (pm.mem_iff.mp m)
            by_cases h0 : 1 ≤ headLen ts
            · refine .inl ⟨a, L, headLen ts, bnd, rfl, upd_same, fun p m => S1.sqT (tk p m), h0, fun p m => lkL p m, fun L' p pm nd _ pw hp => fin L' p pm nd (List.pairwise_map.mpr pw) hp⟩
            · -- all are the empty tuple
              have all0 : ∀ p ∈ L, p.2 = [] := fun p m => List.eq_nil_of_length_eq_zero (by rw [(lkL p m).1]; omega)
              refine .inr ⟨a, L, rfl, upd_same, fun p m => S1.sqT (tk p m), all0, fun p nd hp => fin L p (.refl _) nd ?_ hp⟩
              rw [List.pairwise_map]
              exact List.pairwise_iff_forall_sublist.mpr fun {x y} m => by
                have mx : x ∈ L := m.subset (by simp)
                have my : y ∈ L := m.subset (by simp)
                show TS.code bnd x.2 ≤ TS.code bnd y.2
                rw [all0 x mx, all0 y my]
                exact Int.le_refl _
          · cases e
        · cases e
      · cases e
    · cases e
end
end IP

set_option maxHeartbeats 4000000
/-! IP10: what the interpreter's answers promise: readings. -/
namespace IP
open PySem PySem.Spec PyProof.Rows L2
/-- an exception in the air stands for the interpreter's -/
def XR (K : PySem.W.Frag) (g : GS) (H : Hp) (c : Str) (xs : List (Str × Val)) (cls : Value) (d : Option Addr) : Prop := cls = .ref (He.ga K c) ∧
  match d with
  | none => xs = []
  | some a => ∃ fs, H a = some (.xd fs) ∧ fs.map (·.1) = xs.map (·.1) ∧ RVs K g (fs.map (·.2)) (xs.map (·.2))
/-- what is behind an answer -/
def Out {α β : Type} (K : PySem.W.Frag) (rel : GS → β → α → Prop) (C : XK) (g : GS) (H : Hp) (r : Res α) (Q : β → Hp → Prop) : Prop := match r with
  | .ok v st' => ∀ x g' H', StoreR K g' st' H' → Step g H g' H' → rel g' x v → Q x H'
  | .exc c xs st' => ∀ g' H' cls d, StoreR K g' st' H' → Step g H g' H' → XR K g' H' c xs cls d → C cls d H'
  | .bad => False
section
variable {α β α' β' : Type} {K : PySem.W.Frag} {rel : GS → β → α → Prop} {rel' : GS → β' → α' → Prop} {C : XK} {g : GS} {H : Hp} {st : Store} {Q Q' : β → Hp → Prop}
theorem Out.imp {r : Res α} (h : Out K rel C g H r Q) (f : ∀ x H', Q x H' → Q' x H') : Out K rel C g H r Q' := by
  cases r with
  | ok v st' => exact fun x g' H' S T R => f _ _ (h x g' H' S T R)
  | exc c xs st' => exact h
  | bad => exact h
/-- at a later state -/
theorem Out.later {g1 : GS} {H1 : Hp} {r : Res α} (t : Step g H g1 H1) (h : Out K rel C g H r Q) : Out K rel C g1 H1 r Q := by
  cases r with
  | ok v st' => exact fun x g' H' S T R => h x g' H' S (t.trans T) R
  | exc c xs st' => exact fun g' H' cls d S T R => h g' H' cls d S (t.trans T) R
  | bad => exact h
theorem Out.bind {m : M α} {k : α → M α'} {Q : β' → Hp → Prop} (h : Out K rel' C g H ((m >>= k) st) Q) :
    Out K rel C g H (m st) fun x H' => ∃ g' v st', StoreR K g' st' H' ∧ Step g H g' H' ∧ rel g' x v ∧ Out K rel' C g' H' (k v st') Q := by
  have e : (m >>= k) st = (match m st with
    | .ok v st' => k v st'
    | .exc c x st' => .exc c x st'
    | .bad => .bad) := rfl
  rw [e] at h
  revert h
  cases m st with
  | ok v st' => exact fun h x g' H' S T R => ⟨g', v, st', S, T, R, h.later T⟩
  | exc c xs st' => exact fun h => h
  | bad => exact fun h => h
theorem bind_ok {m : M α} {k : α → M α'} {v : α'} {st' : Store} (h : (m >>= k) st = .ok v st') : ∃ u s1, m st = .ok u s1 ∧ k u s1 = .ok v st' := by
  have e : (m >>= k) st = (match m st with
    | .ok v st' => k v st'
    | .exc c x st' => .exc c x st'
    | .bad => .bad) := rfl
  rw [e] at h
  revert h
  cases m st with
  | ok u s1 => exact fun h => ⟨u, s1, rfl, h⟩
  | exc c xs st' => exact fun h => by cases h
  | bad => exact fun h => by cases h
theorem Out.bindE {m : M α} {k : α → M α'} {Q : β' → Hp → Prop} (h : Out K rel' C g H ((m >>= k) st) Q) :
    Out K rel C g H (m st) fun x H' => ∃ g' v st', m st = .ok v st' ∧ StoreR K g' st' H' ∧ Step g H g' H' ∧ rel g' x v ∧ Out K rel' C g' H' (k v st') Q := by
  have e : (m >>= k) st = (match m st with
    | .ok v st' => k v st'
    | .exc c x st' => .exc c x st'
    | .bad => .bad) := rfl
  rw [e] at h
  revert h
  cases m st with
  | ok v st' => exact fun h x g' H' S T R => ⟨g', v, st', rfl, S, T, R, h.later T⟩
  | exc c xs st' => exact fun h => h
  | bad => exact fun h => h
theorem Out.pure {v : α} (h : Out K rel C g H ((pure v : M α) st) Q) (S : StoreR K g st H) {x : β} (r : rel g x v) : Q x H := h x g H S (Step.refl _ _) r
theorem Out.of_ok {m : M α} {v : α} {st' : Store} (e : m st = .ok v st') (h : Out K rel C g H (m st) Q) : Out K rel C g H (.ok v st') Q := by rw [← e]; exact h
theorem liftP_ok {p : P α} (h : Out K rel C g H (liftP p st) Q) : ∃ v, p st = some v ∧ Out K rel C g H (.ok v st) Q := by
  have e : liftP p st = (match p st with
    | some v => .ok v st
    | none => .bad) := rfl
  rw [e] at h
  revert h
  cases p st with
  | some v => exact fun h => ⟨v, rfl, h⟩
  | none => exact fun h => h.elim
theorem liftO_ok {p : Option α} (h : Out K rel C g H (liftO p st) Q) : ∃ v, p = some v ∧ Out K rel C g H (.ok v st) Q := by
  cases p with
  | some v => exact ⟨v, rfl, h⟩
  | none => exact h.elim
theorem bindP_ok {p : P α'} {k : α' → M α} (h : Out K rel C g H ((liftP p >>= k) st) Q) : ∃ v, p st = some v ∧ Out K rel C g H (k v st) Q := by
  have e : (liftP p >>= k) st = (match liftP p st with
    | .ok v st' => k v st'
    | .exc c x st' => .exc c x st'
    | .bad => .bad) := rfl
  have e2 : liftP p st = (match p st with
    | some v => .ok v st
    | none => .bad) := rfl
  rw [e, e2] at h
  revert h
  cases p st with
  | some v => exact fun h => ⟨v, rfl, h⟩
  | none => exact fun h => h.elim
theorem bindO_ok {p : Option α'} {k : α' → M α} (h : Out K rel C g H ((liftO p >>= k) st) Q) : ∃ v, p = some v ∧ Out K rel C g H (k v st) Q := by
  cases p with
  | some v => exact ⟨v, rfl, h⟩
  | none => exact h.elim
end
/-- an expression's reading by the interpreter -/
def tM {α β : Type} (K : PySem.W.Frag) (rel : GS → β → α → Prop) (W : WX) (m : Env → M α) : L2.St → Hp → (β → Hp → Prop) → Prop := fun σ H Q =>
  ∃ g env st, StoreR K g st H ∧ EnvR K g env σ ∧ Out K rel (WE W σ) g H (m env st) Q
abbrev tE (K : PySem.W.Frag) (W : WX) (m : Env → M Val) : TE := tM K (RV K) W m
abbrev tA (K : PySem.W.Frag) (W : WX) (m : Env → M (List Val)) : TA := tM K (RVs K) W m
def relB (g : GS) (b c : Bool) : Prop := b = c
abbrev tT (K : PySem.W.Frag) (W : WX) (m : Env → M Bool) : TT := tM K relB W m
theorem PE_imp {X : Cx} {e : Expr} {t t' : TE} (h : PE X e t) (f : ∀ σ H Q, t' σ H Q → t σ H Q) : PE X e t' := ⟨fun pins s σ H Q I q => h.run pins s σ H Q I (f σ H Q q)⟩
theorem PT_imp {X : Cx} {e : Expr} {t t' : TT} (h : PT X e t) (f : ∀ σ H Q, t' σ H Q → t σ H Q) : PT X e t' := ⟨fun pins s σ H Q I q => h.run pins s σ H Q I (f σ H Q q)⟩
theorem PA_imp {X : Cx} {e : List Expr} {t t' : TA} (h : PA X e t) (f : ∀ σ H Q, t' σ H Q → t σ H Q) : PA X e t' := ⟨fun p pins s σ H Q I q => h.run p pins s σ H Q I (f σ H Q q)⟩
/-- a reading that is False is any one's -/
theorem PE_no {X : Cx} {e : Expr} {t' : TE} (f : ∀ σ H Q, ¬ t' σ H Q) : PE X e t' := ⟨fun pins s σ H Q I q => (f σ H Q q).elim⟩
theorem PT_no {X : Cx} {e : Expr} {t' : TT} (f : ∀ σ H Q, ¬ t' σ H Q) : PT X e t' := ⟨fun pins s σ H Q I q => (f σ H Q q).elim⟩
section
variable {K : PySem.W.Frag} {W : WX} {α β α' β' : Type} {rel : GS → β → α → Prop} {rel' : GS → β' → α' → Prop}
theorem tM_bad {σ : L2.St} {H : Hp} {Q : β → Hp → Prop} : ¬ tM K rel W (fun _ => (bad : M α)) σ H Q := fun ⟨_, _, _, _, _, h⟩ => h
/-- two in a row -/
theorem tM_bind {m : Env → M α} {k : Env → α → M α'} {σ : L2.St} {H : Hp} {Q : β' → Hp → Prop} (h : tM K rel' W (fun env => m env >>= k env) σ H Q) :
    tM K rel W m σ H fun x H' => ∃ g env v st, StoreR K g st H' ∧ EnvR K g env σ ∧ rel g x v ∧ Out K rel' (WE W σ) g H' (k env v st) Q := by
  obtain ⟨g, env, st, S, R, h⟩ := h
  exact ⟨g, env, st, S, R, h.bind.imp fun x H' ⟨g', v, st', S', T, r, q⟩ => ⟨g', env, v, st', S', R.step T, r, q⟩⟩
end
end IP
namespace IP
open PySem PySem.Spec PyProof.Rows L2
section
variable {X : Cx} {W : WX} {e : Expr} {es : List Expr}
theorem PE_to {m m' : Env → M Val} (h : PE X e (tE X.K W m)) (q : ∀ env, m' env = m env) : PE X e (tE X.K W m') := by
  have : m' = m := funext q
  rw [this]
  exact h
theorem PT_to {m m' : Env → M Bool} (h : PT X e (tT X.K W m)) (q : ∀ env, m' env = m env) : PT X e (tT X.K W m') := by
  have : m' = m := funext q
  rw [this]
  exact h
theorem PA_to {m m' : Env → M (List Val)} (h : PA X es (tA X.K W m)) (q : ∀ env, m' env = m env) : PA X es (tA X.K W m') := by
  have : m' = m := funext q
  rw [this]
  exact h
theorem PE_bad : PE X e (tE X.K W fun _ => bad) := PE_no fun σ H Q h => tM_bad h
theorem PT_bad : PT X e (tT X.K W fun _ => bad) := PT_no fun σ H Q h => tM_bad h
theorem bad_bind {α β : Type} {k : α → M β} : ((bad : M α) >>= k) = bad := rfl
end
end IP

set_option maxHeartbeats 4000000
/-! IP11: one rule for each plain form. -/
namespace IP
open PySem PySem.Spec PyProof.Rows L2
section
variable {K : PySem.W.Frag} {W : WX} {α β α1 β1 α2 β2 : Type} {rel : GS → β → α → Prop} {rel1 : GS → β1 → α1 → Prop} {rel2 : GS → β2 → α2 → Prop}
theorem tM_imp {m : Env → M α} {σ : L2.St} {H : Hp} {Q Q' : β → Hp → Prop} (h : tM K rel W m σ H Q) (f : ∀ x H', Q x H' → Q' x H') : tM K rel W m σ H Q' := by
  obtain ⟨g, env, st, S, R, h⟩ := h
  exact ⟨g, env, st, S, R, h.imp f⟩
def Stay (rel : GS → β → α → Prop) : Prop := ∀ {g g' : GS} {H H' : Hp} {x : β} {v : α}, Step g H g' H' → rel g x v → rel g' x v
theorem RV.stay : Stay (RV K) := fun t r => r.step t
theorem RVs.stay : Stay (RVs K) := fun t r => RVs.step t r
theorem relB.stay : Stay relB := fun _ r => r
theorem tM_bind2 {m1 : Env → M α1} {m2 : Env → M α2} {k : Env → α1 → α2 → M α} {σ : L2.St} {H : Hp} {Q : β → Hp → Prop} (s1 : Stay rel1)
    (h : tM K rel W (fun env => m1 env >>= fun v => m2 env >>= fun u => k env v u) σ H Q) :
    tM K rel1 W m1 σ H fun x H1 => tM K rel2 W m2 σ H1 fun y H2 => ∃ g env v u st, StoreR K g st H2 ∧ EnvR K g env σ ∧ rel1 g x v ∧ rel2 g y u ∧ Out K rel (WE W σ) g H2 (k env v u st) Q := by
  refine tM_imp (tM_bind (rel := rel1) h) fun x H1 ⟨g, env, v, st, S, R, r, q⟩ => ⟨g, env, st, S, R, q.bind.imp fun y H2 ⟨g', u, st', S', T, r', q'⟩ => ⟨g', env, v, u, st', S', R.step T, s1 T r, r', q'⟩⟩
end
section
variable {X : Cx} {W : WX} {a b c : Expr} {ma mb mc : Env → M Val} {mt : Env → M Bool} {pos : Pos}
theorem Wants.of {K : PySem.W.Frag} {C : XK} {g : GS} {H : Hp} {v : Val} {st : Store} {Q : VK} (h : Out K (RV K) C g H (.ok v st) Q) : Wants K g H st v Q := fun z g' H' S T r => h z g' H' S T r
theorem s_binop {op : Operator} (ha : PE X a (tE X.K W ma)) (hb : PE X b (tE X.K W mb)) :
    PE X (.BinOp a op b pos) (tE X.K W fun env => do
      let x ← ma env
      let y ← mb env
      liftO (bin op x y)) := by
  refine PE_imp (pe_op op_bin ha hb) fun σ H Q h => ?_
  refine tM_imp (tM_bind2 (rel1 := RV X.K) (rel2 := RV X.K) RV.stay h) fun x H1 h => tM_imp h fun y H2 ⟨g, env, v, u, st, S, R, rx, ry, q⟩ => ?_
  obtain ⟨r, e, q⟩ := liftO_ok q
  exact ⟨g, st, v, u, r, S, rx, ry, e, .of q⟩
theorem s_cmp {op : CmpOp} (hu : X.A.units + 65 < cLine) (hm : behindInMarks op b = false) (ha : PE X a (tE X.K W ma)) (hb : PE X b (tE X.K W mb)) :
    PE X (.Compare a [op] [b] pos) (tE X.K W fun env => do
      let x ← ma env
      let y ← mb env
      let r ← liftP (cmp op x y)
      pure (.d (.bl r))) := by
  refine PE_imp (pe_cmpR (op_cmp hu) ha hb hm) fun σ H Q h => ?_
  refine tM_imp (tM_bind2 (rel1 := RV X.K) (rel2 := RV X.K) RV.stay h) fun x H1 h => tM_imp h fun y H2 ⟨g, env, v, u, st, S, R, rx, ry, q⟩ => ?_
  obtain ⟨r, e, q⟩ := bindP_ok q
  exact ⟨g, st, v, u, r, S, rx, ry, e, q _ _ _ S (.refl _ _) (.bl r)⟩
theorem s_item (hb' : ∀ l h s p, b ≠ .Slice l h s p) (ha : PE X a (tE X.K W ma)) (hb : PE X b (tE X.K W mb)) :
    PE X (.Subscript a b pos) (tE X.K W fun env => do
      let x ← ma env
      let y ← mb env
      liftP (item x y)) := by
  have hp : PlainIx b := fun o i => by
    unfold subscripted
    split
    · exact absurd rfl (hb' _ _ _ _)
    · rename_i h
      cases h
    · rfl
  refine PE_imp (pe_ix ix_item ha hb hp) fun σ H Q h => ?_
  refine tM_imp (tM_bind2 (rel1 := RV X.K) (rel2 := RV X.K) RV.stay h) fun x H1 h => tM_imp h fun y H2 ⟨g, env, v, u, st, S, R, rx, ry, q⟩ => ?_
  obtain ⟨r, e, q⟩ := liftP_ok q
  exact ⟨g, st, v, u, r, S, rx, ry, e, .of q⟩
theorem s_ifExp (hc : PT X c (tT X.K W mt)) (ha : PE X a (tE X.K W ma)) (hb : PE X b (tE X.K W mb)) :
    PE X (.IfExp c a b pos) (tE X.K W fun env => do
      let t ← mt env
      if t then ma env else mb env) := by
  refine PE_imp (pe_ifExp hc ha hb) fun σ H Q h => ?_
  refine tM_imp (tM_bind (rel := relB) h) fun t H1 ⟨g, env, v, st, S, R, r, q⟩ => ?_
  have r : t = v := r
  subst r
  cases t with
  | true => exact ⟨g, env, st, S, R, q⟩
  | false => exact ⟨g, env, st, S, R, q⟩
theorem s_un {op : UnaryOp} (hn : op ≠ .Not) (ha : PE X a (tE X.K W ma)) :
    PE X (.UnaryOp op a pos) (tE X.K W fun env => do
      let x ← ma env
      liftO (un op x)) := by
  refine PE_imp (pe_un un_bin ha) fun σ H Q h => ?_
  refine tM_imp (tM_bind (rel := RV X.K) h) fun x H1 ⟨g, env, v, st, S, R, r, q⟩ => ?_
  obtain ⟨u, e, q⟩ := liftO_ok q
  exact ⟨g, st, v, u, S, r, e, hn, .of q⟩
theorem s_not (ha : PE X a (tE X.K W ma)) :
    PE X (.UnaryOp .Not a pos) (tE X.K W fun env => do
      let x ← ma env
      liftO (un .Not x)) := by
  refine PE_imp (pe_not ha) fun σ H Q h => ?_
  refine tM_imp (tM_bind (rel := RV X.K) h) fun x H1 ⟨g, env, v, st, S, R, r, q⟩ => ?_
  obtain ⟨u, e, q⟩ := liftO_ok q
  unfold un at e
  split at e
  · rename_i h
    cases h
  · rename_i h
    cases h
  · rename_i b h
    cases e
    cases (show x = .bl _ from RD.bl_inv r)
    exact ⟨_, rfl, (Wants.of q).here S (.bl _)⟩
  · cases e
/-! ### tests -/
theorem s_tnot (ha : PT X a (tT X.K W mt)) : PT X (.UnaryOp .Not a pos) (tT X.K W fun env => do
    let t ← mt env
    pure (!t)) := by
  refine PT_imp (pt_not ha) fun σ H Q h => ?_
  refine tM_imp (tM_bind (rel := relB) h) fun t H1 ⟨g, env, v, st, S, R, r, q⟩ => ?_
  have r : t = v := r
  subst r
  exact q _ _ _ S (.refl _ _) rfl
/-- an expression's value as a bool -/
def asB (m : Env → M Val) : Env → M Bool := fun env => do
  let v ← m env
  match v with
  | .d (.bl b) => pure b
  | _ => bad
theorem s_tval (ha : PE X a (tE X.K W ma)) (he : ∀ whole, isTrue a X.env whole = (do let v ← whole; standAt a.pos; holding [v] (truthy v))) : PT X a (tT X.K W fun env => do
    let v ← ma env
    liftP (tru v)) := by
  refine PT_imp (pt_truth ha he) fun σ H Q h => ?_
  refine tM_imp (tM_bind (rel := RV X.K) h) fun x H1 ⟨g, env, v, st, S, R, r, q⟩ => ?_
  obtain ⟨u, e, q⟩ := liftP_ok q
  exact ⟨u, tru_of S r e, q _ _ _ S (.refl _ _) rfl⟩
end
end IP

set_option maxHeartbeats 4000000
/-! IP12: names, argument lists, displays, fields, slices; the facts that a context keeps. -/
namespace IP
open PySem PySem.Spec PyProof.Rows L2
def noH : Hp := fun _ => none
/-- what a def promises, by the interpreter -/
def spI (K : PySem.W.Frag) (call : Key2 → List Val → M Val) (key : Key2) (n : Nat) : Sp := fun vs H Q E => vs.length = n ∧ ∃ g st ws, StoreR K g st H ∧ RVs K g vs ws ∧ Out K (RV K) E g H (call key ws st) Q
def byNameD {α : Type} (ks ps : List Str) (us ws : List α) : List α := match us with
  | [] => (byNameL ks ws ps).getD []
  | _ :: _ => []
/-- every parameter is given, by position -/
def BindAll (fd : FuncData) (ps : List Str) : Prop := ∀ (s : Shared) (us : List Value), us.length = ps.length → BindsTo s fd ⟨us, []⟩ (ps.zip us)
theorem BindAll.binds {K : PySem.W.Frag} {fd : FuncData} {ps : List Str} (b : BindAll fd ps) : Binds K fd ps [] := fun s us _ hl => by
  rw [List.append_nil] at hl ⊢
  exact b s us hl
structure GlobOk (G : Glob) (K : PySem.W.Frag) (mg : Str → Option Value) : Prop where
  cons : ∀ x v, lookS G.cons x = some v → ∃ y u, mg x = some u ∧ RelV y u ∧ RD K noH y v
  free : ∀ x, x ∈ G.free → mg x = none
  cls : ∀ c b, lookS G.cls c = some b → mg c = some (.ref (He.ga K c)) ∧ Cls K (He.ga K c) ∧ Mk K (He.ga K c) (He.fAd K (c, some "__init__"))
  flds : ∀ c f, (c, f) ∈ G.flds → Cls K (He.ga K c) ∧ NoAttr K (He.ga K c) f
  excs : ∀ x, x ∈ G.excs → ∃ u, mg x = some u
  fn : ∀ f d, G.find (f, none) = some d → mg f = some (.ref (He.fAd K (f, none))) ∧ PySem.W.keepIn K (.ref (He.fAd K (f, none))) = true
  meth : ∀ c m d, G.find (c, some m) = some d → Cls K (He.ga K c) ∧ Meth K (He.ga K c) m (He.fAd K (c, some m))
def FnsOk (G : Glob) (call : Key2 → List Val → M Val) (P : Program) (w : World) (K : PySem.W.Frag) (mg : Str → Option Value) (base : Heap) (k : Nat) : Prop :=
  ∀ key d N', G.find key = some (d, N') → ∃ fd, FnOk P w K mg base (L2.CX P w) k (He.fAd K key) fd (parsOf d) (spI K call key (parsOf d).length) ∧ BindAll fd (parsOf d) ∧
    ∀ ks, (key, ks) ∈ G.kws → KBinds K fd (parsOf d) ks (byNameD ks (parsOf d)) (byNameD ks (parsOf d))
structure CtxE (G : Glob) (call : Key2 → List Val → M Val) (k : Nat) (N : List Str) (sc : Scope) (W : WX) (X : Cx) : Prop where
  hN : X.N = N
  nd : X.N.Nodup
  scope : X.env.scope = sc
  calm : X.calm = true
  tk : Takes X W
  room : Room (2 * k + 1) X.A
  glob : GlobOk G X.K X.mg
  fns : FnsOk G call X.prog X.w X.K X.mg X.base (2 * k)
  own : PassesOwn (model X.prog X.w) X.A X.env X.xe
  len : ∀ key ws st, call key ws st ≠ .bad → ∃ d N', G.find key = some (d, N') ∧ ws.length = (parsOf d).length
theorem RD.noH {K : PySem.W.Frag} {B : Hp} {y : V} {v : DV} (h : RD K noH y v) : RD K B y v := h.mono fun a o e => by cases e
theorem idx_ok : ∀ {N : List Str} {x : Str} {i : Nat}, idx N x = some i → N[i]? = some x
  | [], x, i, h => by cases h
  | y :: r, x, i, h => by
    unfold idx at h
    split at h
    · cases h
      rename_i e
      simp [e]
    · split at h
      · rename_i j e
        cases h
        have := idx_ok e
        simpa using this
      · cases h
theorem vis_ok {sc : Scope} {x : Str} (h : isVis sc x = true) : Vis sc x := by
  unfold isVis at h
  split at h <;> first | (cases h; done) | skip
  · exact .inl (by assumption)
  · exact .inr (.inl (by assumption))
  · exact .inr (.inr (by assumption))
theorem loc_ok {sc : Scope} {x : Str} (h : isLoc sc x = true) : Loc sc x := by
  unfold isLoc at h
  split at h <;> first | (cases h; done) | skip
  · exact .inl (by assumption)
  · exact .inr (by assumption)
theorem local_ok {sc : Scope} {x : Str} (h : isLocal sc x = true) : sc.names.lookup x = some .local := by
  unfold isLocal at h
  split at h <;> first | (cases h; done) | skip
  assumption
section
variable {G : Glob} {call : Key2 → List Val → M Val} {k : Nat} {N : List Str} {sc : Scope} {W : WX} {X : Cx}
theorem CtxE.units (C : CtxE G call k N sc W X) : X.A.units + 65 < cLine := by have := C.room.un; omega
theorem gl_ok (C : CtxE G call k N sc W X) {x : Str} (h : isGl sc x = true) : Gl X x := by
  unfold isGl at h
  split at h <;> first | (cases h; done) | skip
  show X.env.scope.names.lookup x = _
  rw [C.scope]
  assumption
theorem okName_ok {x : Str} (h : okName x = true) : (x == ("__debug__" : Str)) = false ∧ (x == ("__classdict__" : Str)) = false ∧ x ≠ "__name__" := by
  unfold okName at h
  simp only [Bool.and_eq_true, decide_eq_true_eq] at h
  exact ⟨beq_eq_false_iff_ne.mpr h.1.1, beq_eq_false_iff_ne.mpr h.1.2, h.2⟩
theorem tyName_ok {x : Str} {t : String} (h : tyName x = some t) : bootBuiltins x = some (.type t) := by
  unfold tyName at h
  split at h
  · rename_i e; subst e; cases h; rfl
  split at h
  · rename_i e; subst e; cases h; rfl
  split at h
  · rename_i e; subst e; cases h; rfl
  split at h
  · rename_i e; subst e; cases h; rfl
  split at h
  · rename_i e; subst e; cases h; rfl
  · cases h
theorem s_name (C : CtxE G call k N sc W X) {x : Str} {pos : Pos} : PE X (.Name x pos) (tE X.K W fun env => evName G N sc x env) := by
  by_cases h0 : okName x = true
  case neg => exact PE_to PE_bad fun env => by unfold evName; rw [if_neg h0]
  obtain ⟨h1, h2, h3⟩ := okName_ok h0
  by_cases hv : isVis sc x = true
  · cases hi : idx N x with
    | none => exact PE_to PE_bad fun env => by unfold evName; rw [if_pos h0, if_pos hv, hi]
    | some i =>
      refine PE_to (m := fun env => match env[i]? with
        | some (some v) => (pure v : M Val)
        | _ => bad) (PE_imp (pe_var (i := i) (by rw [C.hN]; exact idx_ok hi) (by rw [C.scope]; exact vis_ok hv) h1 h2) fun σ H Q h => ?_) fun env => by unfold evName; rw [if_pos h0, if_pos hv, hi] <;> rfl
      obtain ⟨g, env, st, S, R, h⟩ := h
      have h : Out X.K (RV X.K) (WE W σ) g H ((match env[i]? with
        | some (some v) => (pure v : M Val)
        | _ => bad) st) Q := h
      cases e : env[i]? with
      | none =>
        rw [e] at h
        exact h.elim
      | some o =>
        rw [e] at h
        cases o with
        | none => exact h.elim
        | some v =>
          obtain ⟨y, e1, r⟩ := R.2 i v e
          exact ⟨y, e1, Out.pure h S r⟩
  by_cases hg : isGl sc x = true
  case neg => exact PE_to PE_bad fun env => by unfold evName; rw [if_pos h0, if_neg hv, if_neg hg]
  cases hc : lookS G.cons x with
  | some v =>
    obtain ⟨y, u, m, r, rd⟩ := C.glob.cons x v hc
    refine PE_to (m := fun _ => (pure (.d v) : M Val)) (PE_imp (pe_glob (gl_ok C hg) m r h1) fun σ H Q h => ?_) fun env => by unfold evName; rw [if_pos h0, if_neg hv, if_pos hg, hc]
    obtain ⟨g, env, st, S, R, h⟩ := h
    exact Out.pure h S (show RD X.K g.B y v from rd.noH)
  | none =>
    by_cases hf : x ∈ G.free
    case neg => exact PE_to PE_bad fun env => by unfold evName; rw [if_pos h0, if_neg hv, if_pos hg, hc]; dsimp only; rw [if_neg hf]
    cases ht : tyName x with
    | none => exact PE_to PE_bad fun env => by unfold evName; rw [if_pos h0, if_neg hv, if_pos hg, hc]; dsimp only; rw [if_pos hf, ht]
    | some t =>
      refine PE_to (m := fun _ => (pure (.ty t) : M Val)) (PE_imp (pe_bltn (v := .ty t) (gl_ok C hg) (C.glob.free x hf) (tyName_ok ht) rfl h3 h1) fun σ H Q h => ?_) fun env => by unfold evName; rw [if_pos h0, if_neg hv, if_pos hg, hc]; dsimp only; rw [if_pos hf, ht]
      obtain ⟨g, env, st, S, R, h⟩ := h
      exact Out.pure h S (show RV X.K g (.ty t) (.ty t) from rfl)
theorem s_const {c : Const} {j : Nat} {pos : Pos} : PE X (.Constant c j pos) (tE X.K W fun _ => constV c) := by
  cases c with
  | int i => exact PE_imp pe_int fun σ H Q ⟨g, env, st, S, R, h⟩ => h.pure S (.int i)
  | bool b => exact PE_imp pe_bl fun σ H Q ⟨g, env, st, S, R, h⟩ => h.pure S (.bl b)
  | none => exact PE_imp pe_non fun σ H Q ⟨g, env, st, S, R, h⟩ => h.pure S .non
  | str x => exact PE_imp pe_str fun σ H Q ⟨g, env, st, S, R, h⟩ => h.pure S (.str x)
  | _ => exact PE_no fun σ H Q ⟨g, env, st, S, R, h⟩ => h
/-! ### argument lists -/
theorem star_cons {e : Expr} {es : List Expr} {env : PySem.Env} (h : isStar e = false) : starEach (e :: es) env = (false, eval e env) :: starEach es env := by
  cases e <;> first | (cases h; done) | rfl
theorem star_none {pos : Pos} {env : PySem.Env} : ∀ {es : List Expr}, es.any isStar = false → (backTo pos (starEach es env)).any (·.1) = false
  | [], _ => rfl
  | e :: es, h => by
    simp only [List.any_cons, Bool.or_eq_false_iff] at h
    rw [star_cons h.1]
    show (false || (backTo pos (starEach es env)).any (·.1)) = false
    rw [star_none h.2]
    rfl
theorem s_args {mf : Expr → IP.Env → M Val} : ∀ {es : List Expr}, (∀ e ∈ es, PE X e (tE X.K W (mf e))) → es.any isStar = false → PA X es (tA X.K W fun env => evL0 (fun e => mf e env) es)
  | [], _, _ => PA_imp pa_nil fun σ H Q ⟨g, env, st, S, R, h⟩ => h.pure S .nil
  | e :: es, he, h => by
    simp only [List.any_cons, Bool.or_eq_false_iff] at h
    refine PA_imp (pa_cons (he e List.mem_cons_self) (s_args (fun e' m => he e' (List.mem_cons_of_mem _ m)) h.2) (star_cons h.1)) fun σ H Q q => ?_
    have q' : tM X.K (RVs X.K) W (fun env => mf e env >>= fun v => evL0 (fun e => mf e env) es >>= fun vs => pure (v :: vs)) σ H Q := q
    refine tM_imp (tM_bind2 (rel1 := RV X.K) (rel2 := RVs X.K) RV.stay q') fun x H1 h => tM_imp h fun xs H2 ⟨g, env, v, vs, st, S, R, r, rs, q⟩ => ?_
    exact q.pure S (.cons r rs)
/-- a list of expressions: none starred, or the reading is False -/
theorem evL_bad {f : Expr → M Val} {es : List Expr} (h : es.any isStar = true) : evL f es = bad := by unfold evL; rw [if_pos h]
theorem evL_ok {f : Expr → M Val} {es : List Expr} (h : es.any isStar = false) : evL f es = evL0 f es := by
  unfold evL
  rw [if_neg (by rw [h]; simp)]
theorem tupM_ok {C : XK} {g : GS} {H : Hp} {vs : List Val} {st : Store} {Q : VK} (q : Out X.K (RV X.K) C g H (tupM vs st) Q) : ∃ ds, pureL vs = some ds ∧ ds.length ≤ lim ∧ Out X.K (RV X.K) C g H (.ok (.d (.tup ds)) st) Q := by
  unfold tupM at q
  cases e : pureL vs with
  | none =>
    rw [e] at q
    exact q.elim
  | some ds =>
    rw [e] at q
    by_cases hl : ds.length ≤ lim
    · have q : Out X.K (RV X.K) C g H ((if ds.length ≤ lim then (pure (.d (.tup ds)) : M Val) else bad) st) Q := q
      rw [if_pos hl] at q
      exact ⟨ds, rfl, hl, q⟩
    · have q : Out X.K (RV X.K) C g H ((if ds.length ≤ lim then (pure (.d (.tup ds)) : M Val) else bad) st) Q := q
      rw [if_neg hl] at q
      exact q.elim
theorem s_tuple {mf : Expr → IP.Env → M Val} {es : List Expr} {x1} {pos : Pos} (he : ∀ e ∈ es, PE X e (tE X.K W (mf e))) : PE X (.Tuple es x1 pos) (tE X.K W fun env => do tupM (← evL (fun e => mf e env) es)) := by
  cases hs : es.any isStar with
  | true => exact PE_to PE_bad fun env => by rw [evL_bad hs, bad_bind]
  | false =>
    refine PE_to (m := fun env => do tupM (← evL0 (fun e => mf e env) es)) (PE_imp (pe_tup (s_args he hs)) fun σ H Q h => ?_) fun env => by rw [evL_ok hs]
    refine tM_imp (tM_bind (rel := RVs X.K) h) fun xs H1 ⟨g, env, vs, st, S, R, r, q⟩ => ?_
    obtain ⟨ds, e, hl, q⟩ := tupM_ok q
    have rd := pure_RVs r e
    refine ⟨by rw [rd.length]; exact lim_line hl, fun p hp => ?_⟩
    obtain ⟨S', T⟩ := S.alloc (.tup xs) hp
    exact q _ _ _ S' T (RD.tup (.of upd_self) (rd.mono T.sub))
/-- a new list, as a cell or as data -/
theorem cell_new {pos : Pos} {g : GS} {st : Store} {H : Hp} {xs : List V} {vs : List Val} {C : XK} {Q : VK} (S : StoreR X.K g st H) (r : RVs X.K g xs vs) (q : Out X.K (RV X.K) C g H (cellM G pos vs st) Q) {p : Addr} (hp : H p = none) :
    Q (.ref p) (upd H p (.lst xs)) := by
  unfold cellM at q
  split at q
  · obtain ⟨S', T⟩ := S.allocC (.lst xs) (c := .lst vs) hp ⟨xs, upd_self, RVs.monoS (g := g) (g' := ⟨g.B, g.ad ++ [p]⟩) (Same.refl _) ⟨[p], rfl⟩ r⟩
    refine q _ _ _ S' T ⟨p, rfl, ?_⟩
    have hl : g.ad.length = st.length := Paired.length S.cells
    show (g.ad ++ [p])[st.length]? = some p
    rw [← hl]
    simp
  · split at q
    · rename_i ds e
      split at q
      · have rd := pure_RVs r e
        obtain ⟨S', T⟩ := S.alloc (.lst xs) hp
        exact q _ _ _ S' T (RD.lst upd_self (rd.mono T.sub))
      · exact q.elim
    · exact q.elim
theorem evL0_len {f : Expr → M Val} : ∀ {es : List Expr} {st st' : Store} {vs : List Val}, evL0 f es st = .ok vs st' → vs.length = es.length
  | [], st, st', vs, h => by
    cases h
    rfl
  | e :: es, st, st', vs, h => by
    unfold evL0 at h
    obtain ⟨v, s1, h1, h2⟩ := bind_ok h
    obtain ⟨ws, s2, h3, h4⟩ := bind_ok h2
    cases h4
    simp [evL0_len h3]
theorem tM_lst {mf : Expr → IP.Env → M Val} {es : List Expr} {f : List Val → M Val} {σ : L2.St} {H : Hp} {Q : VK} (h : tE X.K W (fun env => evL0 (fun e => mf e env) es >>= f) σ H Q) :
    tA X.K W (fun env => evL0 (fun e => mf e env) es) σ H fun xs H1 => ∃ g env vs st, StoreR X.K g st H1 ∧ EnvR X.K g env σ ∧ RVs X.K g xs vs ∧ vs.length = es.length ∧ Out X.K (RV X.K) (WE W σ) g H1 (f vs st) Q := by
  obtain ⟨g, env, st, S, R, h⟩ := h
  exact ⟨g, env, st, S, R, Out.imp (Out.bindE (rel := RVs X.K) h) fun x H' ⟨g', v, st', e, S', T, r, q⟩ => ⟨g', env, v, st', S', R.step T, r, evL0_len e, q⟩⟩
theorem s_list {mf : Expr → IP.Env → M Val} {es : List Expr} {pos : Pos} (he : ∀ e ∈ es, PE X e (tE X.K W (mf e))) : PE X (.List es pos) (tE X.K W fun env => if es.length ≤ lim then do cellM G pos (← evL (fun e => mf e env) es) else bad) := by
  by_cases hl : es.length ≤ lim
  case neg => exact PE_to PE_bad fun env => by rw [if_neg hl]
  cases hs : es.any isStar with
  | true => exact PE_to PE_bad fun env => by rw [if_pos hl, evL_bad hs, bad_bind]
  | false =>
    refine PE_to (m := fun env => do cellM G pos (← evL0 (fun e => mf e env) es)) (PE_imp (pe_lst (s_args he hs)) fun σ H Q h => ?_) fun env => by rw [if_pos hl, evL_ok hs]
    refine tM_imp (tM_lst h) fun xs H1 ⟨g, env, vs, st, S, R, r, hv, q⟩ => ?_
    exact ⟨by rw [Paired.length r, hv]; exact lim_line hl, fun p hp => cell_new S r q hp⟩
/-! ### fields, slices -/
theorem attrBase {o : Expr} {f : Str} {env : PySem.Env} {whole : Sem Value} (h : plainB o = true) : attributeBase o f env whole = whole := by
  unfold attributeBase
  split
  · rename_i x p1 p2
    have hx : (x != ("super" : Str)) = true := h
    simp only [hx, Bool.true_or, if_true]
  · rfl
end
end IP

set_option maxHeartbeats 4000000
/-! IP13: and, or; fields; slices; chains. -/
namespace IP
open PySem PySem.Spec PyProof.Rows L2
section
variable {G : Glob} {call : Key2 → List Val → M Val} {k : Nat} {N : List Str} {sc : Scope} {W : WX} {X : Cx}
theorem s_boolop {mf : Expr → IP.Env → M Val} {op : BoolOp} {pos : Pos} : ∀ {es : List Expr}, (∀ e ∈ es, PE X e (tE X.K W (mf e))) → PE X (.BoolOp op es pos) (tE X.K W fun env => evB (fun e => mf e env) op es)
  | [], _ => PE_to PE_bad fun env => rfl
  | [e], he => PE_to (pe_one (he e List.mem_cons_self)) fun env => rfl
  | e :: e' :: es, he => by
    have ih := s_boolop (op := op) (pos := pos) (es := e' :: es) fun x m => he x (List.mem_cons_of_mem _ m)
    have h0 := he e List.mem_cons_self
    cases op with
    | And =>
      refine PE_imp (pe_and h0 ih) fun σ H Q h => ?_
      have h : tE X.K W (fun env => mf e env >>= fun v => match v with
        | .d (.bl b) => (match BoolOp.And, b with
          | .And, true => evB (fun e => mf e env) .And (e' :: es)
          | .And, false => pure (.d (.bl false))
          | .Or, true => pure (.d (.bl true))
          | .Or, false => evB (fun e => mf e env) .And (e' :: es))
        | _ => bad) σ H Q := h
      refine tM_imp (tM_bind (rel := RV X.K) h) fun x H1 ⟨g, env, v, st, S, R, r, q⟩ => ?_
      cases v with
      | d dv =>
        cases dv with
        | bl b =>
          cases (show x = .bl b from RD.bl_inv r)
          refine ⟨b, rfl, ?_⟩
          cases b with
          | true => exact ⟨g, env, st, S, R, q⟩
          | false => exact Out.pure q S (.bl false)
        | _ => exact q.elim
      | _ => exact q.elim
    | Or =>
      refine PE_imp (pe_or h0 ih) fun σ H Q h => ?_
      have h : tE X.K W (fun env => mf e env >>= fun v => match v with
        | .d (.bl b) => (match BoolOp.Or, b with
          | .And, true => evB (fun e => mf e env) .Or (e' :: es)
          | .And, false => pure (.d (.bl false))
          | .Or, true => pure (.d (.bl true))
          | .Or, false => evB (fun e => mf e env) .Or (e' :: es))
        | _ => bad) σ H Q := h
      refine tM_imp (tM_bind (rel := RV X.K) h) fun x H1 ⟨g, env, v, st, S, R, r, q⟩ => ?_
      cases v with
      | d dv =>
        cases dv with
        | bl b =>
          cases (show x = .bl b from RD.bl_inv r)
          refine ⟨b, rfl, ?_⟩
          cases b with
          | false => exact ⟨g, env, st, S, R, q⟩
          | true => exact Out.pure q S (.bl true)
        | _ => exact q.elim
      | _ => exact q.elim
theorem PW_imp {e : Expr} {t t' : TT} (h : PW X e t) (f : ∀ σ H Q, t' σ H Q → t σ H Q) : PW X e t' := ⟨fun wh pins s σ H Q I q => h.run wh pins s σ H Q I (f σ H Q q)⟩
theorem PW_to {e : Expr} {m m' : IP.Env → M Bool} (h : PW X e (tT X.K W m)) (q : ∀ env, m' env = m env) : PW X e (tT X.K W m') := by
  have : m' = m := funext q
  rw [this]
  exact h
theorem s_tboolop {mf : Expr → IP.Env → M Bool} {op : BoolOp} {pos : Pos} : ∀ {es : List Expr}, es ≠ [] → (∀ e ∈ es, PT X e (tT X.K W (mf e))) → PW X (.BoolOp op es pos) (tT X.K W fun env => evTs (fun e => mf e env) op es)
  | [], hn, _ => absurd rfl hn
  | [e], _, he => by
    cases op with
    | And => exact PW_to (pw_and1 (he e List.mem_cons_self)) fun env => rfl
    | Or => exact PW_to (pw_or1 (he e List.mem_cons_self)) fun env => rfl
  | e :: e' :: es, _, he => by
    have ih := s_tboolop (op := op) (pos := pos) (es := e' :: es) (by simp) fun x m => he x (List.mem_cons_of_mem _ m)
    have h0 := he e List.mem_cons_self
    cases op with
    | And =>
      refine PW_imp (pw_and h0 ih) fun σ H Q h => ?_
      have h : tT X.K W (fun env => mf e env >>= fun b => (match BoolOp.And, b with
          | .And, true => evTs (fun e => mf e env) .And (e' :: es)
          | .And, false => pure false
          | .Or, true => pure true
          | .Or, false => evTs (fun e => mf e env) .And (e' :: es))) σ H Q := h
      refine tM_imp (tM_bind (rel := relB) h) fun x H1 ⟨g, env, v, st, S, R, r, q⟩ => ?_
      have r : x = v := r
      subst r
      cases x with
      | true => exact ⟨g, env, st, S, R, q⟩
      | false => exact Out.pure q S (show relB g false false from rfl)
    | Or =>
      refine PW_imp (pw_or h0 ih) fun σ H Q h => ?_
      have h : tT X.K W (fun env => mf e env >>= fun b => (match BoolOp.Or, b with
          | .And, true => evTs (fun e => mf e env) .Or (e' :: es)
          | .And, false => pure false
          | .Or, true => pure true
          | .Or, false => evTs (fun e => mf e env) .Or (e' :: es))) σ H Q := h
      refine tM_imp (tM_bind (rel := relB) h) fun x H1 ⟨g, env, v, st, S, R, r, q⟩ => ?_
      have r : x = v := r
      subst r
      cases x with
      | false => exact ⟨g, env, st, S, R, q⟩
      | true => exact Out.pure q S (show relB g true true from rfl)
/-! ### fields -/
theorem look_zip {g : GS} {f : Str} : ∀ {fs : List (Str × V)} {xs : List Val} {v : Val}, RVs X.K g (fs.map (·.2)) xs → lookZ (fs.map (·.1)) xs f = some v → ∃ y, fs.lookup f = some y ∧ RV X.K g y v
  | [], xs, v, r, e => by
    cases xs <;> cases e
  | (n, y) :: fs, [], v, r, e => by cases e
  | (n, y) :: fs, x :: xs, v, .cons h t, e => by
    have e : (if n = f then some x else lookZ (fs.map (·.1)) xs f) = some v := e
    by_cases hn : n = f
    · rw [if_pos hn] at e
      cases e
      subst hn
      exact ⟨y, by simp [List.lookup_cons], h⟩
    · rw [if_neg hn] at e
      obtain ⟨z, e2, r2⟩ := look_zip t e
      refine ⟨z, ?_, r2⟩
      rw [List.lookup_cons, beq_eq_false_iff_ne.mpr (fun q => hn q.symm)]
      exact e2
theorem look_zipD {B : Hp} {f : Str} : ∀ {fs : List (Str × V)} {xs : List DV} {v : DV}, RDs X.K B (fs.map (·.2)) xs → lookZ (fs.map (·.1)) xs f = some v → ∃ y, fs.lookup f = some y ∧ RD X.K B y v
  | [], xs, v, r, e => by
    cases xs <;> cases e
  | (n, y) :: fs, [], v, r, e => by cases e
  | (n, y) :: fs, x :: xs, v, .cons h t, e => by
    have e : (if n = f then some x else lookZ (fs.map (·.1)) xs f) = some v := e
    by_cases hn : n = f
    · rw [if_pos hn] at e
      cases e
      subst hn
      exact ⟨y, by simp [List.lookup_cons], h⟩
    · rw [if_neg hn] at e
      obtain ⟨z, e2, r2⟩ := look_zipD t e
      refine ⟨z, ?_, r2⟩
      rw [List.lookup_cons, beq_eq_false_iff_ne.mpr (fun q => hn q.symm)]
      exact e2
theorem s_attr (C : CtxE G call k N sc W X) {o : Expr} {f : Str} {pos : Pos} {m : IP.Env → M Val} (hp : plainB o = true) (ho : PE X o (tE X.K W m)) : PE X (.Attribute o f pos) (tE X.K W fun env => do
    let x ← m env
    liftP (field G.flds x f)) := by
  refine PE_imp (pe_fld ho (attrBase hp)) fun σ H Q h => ?_
  refine tM_imp (tM_bind (rel := RV X.K) h) fun x H1 ⟨g, env, v, st, S, R, r, q⟩ => ?_
  obtain ⟨y, e, q9⟩ := liftP_ok q
  clear q
  unfold field at e
  split at e
  · rename_i c ns xs
    split at e
    · rename_i hf
      obtain ⟨h1, h2⟩ := C.glob.flds c f hf
      split at e
      · rename_i d e1
        cases e
        cases (show RD X.K g.B x (.obj c ns xs) from r) with
        | obj hB hn hr =>
          subst hn
          obtain ⟨z, e2, r2⟩ := look_zipD hr e1
          exact ⟨_, _, _, _, z, rfl, S.sub _ _ hB, h1, h2, e2, q9 _ _ _ S (.refl _ _) r2⟩
      · cases e
    · cases e
  · rename_i n
    split at e
    · rename_i c ns xs e1
      split at e
      · rename_i hf
        obtain ⟨h1, h2⟩ := C.glob.flds c f hf
        obtain ⟨a, e2, e3, dx, fs, hH, hn, hr⟩ := r.cellAt S e1
        subst hn
        obtain ⟨z, e4, r2⟩ := look_zip hr e
        exact ⟨a, _, _, _, z, e2, hH, h1, h2, e4, q9 _ _ _ S (.refl _ _) r2⟩
      · cases e
    · cases e
  · cases e
/-! ### slices -/
def relO (g : GS) (b c : Option Int) : Prop := b = c
theorem relO.stay : Stay relO := fun _ r => r
theorem PO_imp {e : Option Expr} {t t' : TO} (h : PO X e t) (f : ∀ σ H Q, t' σ H Q → t σ H Q) : PO X e t' := ⟨fun pins s σ H Q I q => h.run pins s σ H Q I (f σ H Q q)⟩
theorem s_part {mf : Expr → IP.Env → M Val} {lo : Option Expr} (h : ∀ e, lo = some e → PE X e (tE X.K W (mf e))) : PO X lo (tM X.K relO W fun env => evO (fun e => mf e env) lo) := by
  cases lo with
  | none => exact PO_imp po_none fun σ H Q ⟨g, env, st, S, R, h⟩ => Out.pure h S rfl
  | some e =>
    refine PO_imp (po_some (h e rfl)) fun σ H Q h => ?_
    have h : tM X.K relO W (fun env => mf e env >>= fun v => liftO (asInt v) >>= fun i => pure (some i)) σ H Q := h
    refine tM_imp (tM_bind (rel := RV X.K) h) fun x H1 ⟨g, env, v, st, S, R, r, q⟩ => ?_
    obtain ⟨i, e, q⟩ := bindO_ok q
    have r2 : x = .int i := by
      unfold asInt at e
      split at e
      · cases e
        exact RD.int_inv r
      · cases e
    exact ⟨i, r2, Out.pure q S rfl⟩
theorem s_slice {mf : Expr → IP.Env → M Val} {o : Expr} {lo hi : Option Expr} {p2 pos : Pos} (ho : PE X o (tE X.K W (mf o))) (hl : ∀ e, lo = some e → PE X e (tE X.K W (mf e))) (hh : ∀ e, hi = some e → PE X e (tE X.K W (mf e))) :
    PE X (.Subscript o (.Slice lo hi none p2) pos) (tE X.K W fun env => do
      let x ← mf o env
      let l ← evO (fun e => mf e env) lo
      let u ← evO (fun e => mf e env) hi
      liftP (cut x l u)) := by
  refine PE_imp (pe_slice sl_cut ho (s_part hl) (s_part hh)) fun σ H Q h => ?_
  refine tM_imp (tM_bind (rel := RV X.K) h) fun x H1 ⟨g, env, v, st, S, R, r, q⟩ => ?_
  refine ⟨g, env, st, S, R, Out.imp (Out.bind (rel := relO) q) fun l H2 ⟨g2, l', st2, S2, T2, rl, q⟩ => ?_⟩
  refine ⟨g2, env, st2, S2, R.step T2, Out.imp (Out.bind (rel := relO) q) fun u H3 ⟨g3, u', st3, S3, T3, ru, q⟩ => ?_⟩
  have rl : l = l' := rl
  have ru : u = u' := ru
  subst rl ru
  obtain ⟨y, e, q⟩ := liftP_ok q
  exact ⟨g3, st3, v, y, S3, (r.step T2).step T3, e, .of q⟩
/-! ### chains -/
theorem s_chain {ma mb mc : IP.Env → M Val} {a b c : Expr} {op op' : CmpOp} {pos : Pos} (hu : X.A.units + 65 < cLine) (hm : lastMarks [op, op'] [b, c] = false) (ha : PE X a (tE X.K W ma)) (hb : PE X b (tE X.K W mb)) (hc : PE X c (tE X.K W mc)) :
    PE X (.Compare a [op, op'] [b, c] pos) (tE X.K W fun env => do
      let x ← ma env
      let y ← mb env
      let r ← liftP (cmp op x y)
      if r then do
        let z ← mc env
        let r' ← liftP (cmp op' y z)
        pure (.d (.bl r'))
      else pure (.d (.bl false))) := by
  refine PE_imp (pe_chain (op_cmp hu) (op_cmp hu) ha hb hc hm) fun σ H Q h => ?_
  refine tM_imp (tM_bind2 (rel1 := RV X.K) (rel2 := RV X.K) RV.stay h) fun x H1 h => tM_imp h fun y H2 ⟨g, env, v, u, st, S, R, rx, ry, q⟩ => ?_
  obtain ⟨r, e, q⟩ := bindP_ok q
  refine ⟨g, st, v, u, r, S, rx, ry, e, r, rfl, ?_⟩
  cases r with
  | false => exact Out.pure q S (.bl false)
  | true =>
    refine ⟨g, env, st, S, R, Out.imp (Out.bind (rel := RV X.K) q) fun z H3 ⟨g3, z', st3, S3, T3, rz, q⟩ => ?_⟩
    obtain ⟨r', e', q⟩ := bindP_ok q
    exact ⟨g3, st3, u, z', r', S3, ry.step T3, rz, e', Out.pure q S3 (.bl r')⟩
end
end IP

set_option maxHeartbeats 4000000
/-! IP14: calls of defs: by position, by keywords; methods; own classes made. -/
namespace IP
open PySem PySem.Spec PyProof.Rows L2
section
variable {G : Glob} {call : Key2 → List Val → M Val} {k : Nat} {N : List Str} {sc : Scope} {W : WX} {X : Cx}
variable {pins : List (Addr × Obj)} {s : Shared} {σ : L2.St} {H : Hp} {Q : VK} {us : List Value} {vs : List V} {ws : List Val} {g : GS} {st : Store} {key : Key2} {d : He.DefD} {N' : List Str}
theorem call_bad {C' : XK} {r : Res Val} (h : Out X.K (RV X.K) C' g H r Q) : r ≠ .bad := fun e => by
  rw [e] at h
  exact h
theorem CtxE.sp (C : CtxE G call k N sc W X) (hf : G.find key = some (d, N')) (rs : RVs X.K g vs ws) (S : StoreR X.K g st H) {E : XK} (h : Out X.K (RV X.K) E g H (call key ws st) Q) : spI X.K call key (parsOf d).length (vs ++ []) H Q E := by
  obtain ⟨d2, N2, h2, hl⟩ := C.len key ws st (call_bad h)
  rw [hf] at h2
  cases h2
  rw [List.append_nil]
  exact ⟨by rw [← hl]; exact Paired.length rs, g, st, ws, S, rs, h⟩
theorem CtxE.spK (C : CtxE G call k N sc W X) (hf : G.find key = some (d, N')) (rs : RVs X.K g vs ws) (S : StoreR X.K g st H) {E : XK} (h : Out X.K (RV X.K) E g H (call key ws st) Q) : spI X.K call key (parsOf d).length vs H Q E := by
  have := C.sp hf rs S h
  rw [List.append_nil] at this
  exact this
theorem run_call (C : CtxE G call k N sc W X) (hf : G.find key = some (d, N')) (I : Inv X pins σ H s) (r : Vals vs us) (S : StoreR X.K g st H) (rs : RVs X.K g vs ws) (h : Out X.K (RV X.K) (WE W σ) g H (call key ws st) Q) :
    wpAny (model X.prog X.w) X.A (PySem.call (.ref (He.fAd X.K key)) us) (EP X pins σ Q) X.xe s := by
  obtain ⟨fd, F, b, _⟩ := C.fns key d N' hf
  exact run_fnSD (dvs := []) (ds := []) (E := WE W) F (C.room.mono (Nat.le_succ _)) b.binds .nil (passAt C.tk σ) I r (C.sp hf rs S h)
theorem s_call (C : CtxE G call k N sc W X) {mf : Expr → IP.Env → M Val} {x : Str} {p pos : Pos} {es : List Expr} (hf : G.find (x, none) = some (d, N')) (h0 : okName x = true) (hg : isGl sc x = true) (he : ∀ e ∈ es, PE X e (tE X.K W (mf e))) :
    PE X (.Call (.Name x p) es [] pos) (tE X.K W fun env => do call (x, none) (← evL (fun e => mf e env) es)) := by
  cases hs : es.any isStar with
  | true => exact PE_to PE_bad fun env => by rw [evL_bad hs, bad_bind]
  | false =>
    obtain ⟨hm, hk⟩ := C.glob.fn x _ hf
    refine PE_to (m := fun env => evL0 (fun e => mf e env) es >>= fun vs => call (x, none) vs) ⟨fun pins s σ H Q I h => ?_⟩ fun env => by rw [evL_ok hs]
    refine wpAny_Call_Name_kw (ld_glob I (gl_ok C hg) hm ?_ (okName_ok h0).1)
    cases es with
    | nil =>
      obtain ⟨g, env, st, S, R, h⟩ := h
      exact PySem.W.callWith_K0 I.kIn hk (run_call C hf I .nil S .nil h)
    | cons e es =>
      have hs' := hs
      simp only [List.any_cons, Bool.or_eq_false_iff] at hs'
      refine PySem.W.callWith_K (h₀ := X.base) I.ok.mod.kin hk (thn ((s_args he hs).run pos pins s σ H _ I (tM_bind (rel := RVs X.K) h)) fun us s1 ⟨vs, H1, I1, r, q⟩ => ⟨I1.kIn, ?_⟩) (star_cons hs'.1) (star_none hs'.2)
      obtain ⟨g, env, ws, st, S, R, rs, q⟩ := q
      exact run_call C hf I1 r S rs q
/-! ### by keywords -/
theorem keys_some {env : PySem.Env} {pos : Pos} : ∀ {kws : List Keyword} {ks : List Str}, keysOf kws = some ks → (backToKw pos (keywordEach kws env)).all (·.1.isSome) = true ∧ (backToKw pos (keywordEach kws env)).any (·.1.isNone) = false ∧ (backToKw pos (keywordEach kws env)).filterMap (·.1) = ks
  | [], ks, h => by
    cases h
    exact ⟨rfl, rfl, rfl⟩
  | ⟨some n, e, p⟩ :: r, ks, h => by
    unfold keysOf at h
    cases q : keysOf r with
    | none =>
      rw [q] at h
      cases h
    | some l =>
      rw [q] at h
      cases h
      obtain ⟨h1, h2, h3⟩ := keys_some (env := env) (pos := pos) q
      refine ⟨?_, ?_, ?_⟩
      · show (true && (backToKw pos (keywordEach r env)).all (·.1.isSome)) = true
        rw [h1]
        rfl
      · show (false || (backToKw pos (keywordEach r env)).any (·.1.isNone)) = false
        rw [h2]
        rfl
      · show n :: (backToKw pos (keywordEach r env)).filterMap (·.1) = n :: l
        rw [h3]
  | ⟨none, e, p⟩ :: r, ks, h => by cases h
theorem PK_imp {kws : List Keyword} {t t' : TA} (h : PK X kws t) (f : ∀ σ H Q, t' σ H Q → t σ H Q) : PK X kws t' := ⟨fun p pins s σ H Q I q => h.run p pins s σ H Q I (f σ H Q q)⟩
theorem s_kws {mf : Expr → IP.Env → M Val} : ∀ {kws : List Keyword}, (∀ w ∈ kws, PE X w.value (tE X.K W (mf w.value))) → PK X kws (tA X.K W fun env => evK (fun e => mf e env) kws)
  | [], _ => PK_imp pk_nil fun σ H Q ⟨g, env, st, S, R, h⟩ => Out.pure h S .nil
  | ⟨n, e, p⟩ :: kws, he => by
    refine PK_imp (pk_cons (he _ List.mem_cons_self) (s_kws fun w m => he w (List.mem_cons_of_mem _ m))) fun σ H Q q => ?_
    have q' : tM X.K (RVs X.K) W (fun env => mf e env >>= fun v => evK (fun e => mf e env) kws >>= fun vs => pure (v :: vs)) σ H Q := q
    refine tM_imp (tM_bind2 (rel1 := RV X.K) (rel2 := RVs X.K) RV.stay q') fun x H1 h => tM_imp h fun xs H2 ⟨g, env, v, vs, st, S, R, r, rs, q⟩ => ?_
    exact Out.pure q S (.cons r rs)
theorem zip_look {α β : Type} {F : α → β → Prop} : ∀ {ks : List Str} {xs : List α} {ys : List β}, Paired F xs ys → ∀ {p : Str} {y : β}, lookS (ks.zip ys) p = some y → ∃ x, lookS (ks.zip xs) p = some x ∧ F x y
  | [], _, _, _, p, y, e => by cases e
  | _ :: _, _, _, .nil, p, y, e => by cases e
  | k :: ks, x :: xs, y0 :: ys, .cons h t, p, y, e => by
    have e : (if k = p then some y0 else lookS (ks.zip ys) p) = some y := e
    show ∃ z, (if k = p then some x else lookS (ks.zip xs) p) = some z ∧ F z y
    by_cases hn : k = p
    · rw [if_pos hn] at e ⊢
      cases e
      exact ⟨x, rfl, h⟩
    · rw [if_neg hn] at e ⊢
      exact zip_look t e
theorem byName_rel {α β : Type} {F : α → β → Prop} {ks : List Str} {xs : List α} {ys : List β} (r : Paired F xs ys) : ∀ {ps : List Str} {zs : List β}, byName (ks.zip ys) ps = some zs → ∃ ws, byName (ks.zip xs) ps = some ws ∧ Paired F ws zs
  | [], zs, e => by
    cases e
    exact ⟨[], rfl, .nil⟩
  | p :: ps, zs, e => by
    unfold byName at e
    cases q : lookS (ks.zip ys) p with
    | none =>
      rw [q] at e
      cases e
    | some v =>
      rw [q] at e
      dsimp only at e
      cases q2 : byName (ks.zip ys) ps with
      | none =>
        rw [q2] at e
        cases e
      | some l =>
        rw [q2] at e
        cases e
        obtain ⟨x, h1, h2⟩ := zip_look (ks := ks) r q
        obtain ⟨ws, h3, h4⟩ := byName_rel r q2
        refine ⟨x :: ws, ?_, .cons h2 h4⟩
        unfold byName
        rw [h1]
        dsimp only
        rw [h3]
theorem run_callK (C : CtxE G call k N sc W X) {ks : List Str} {zs : List V} {uz : List Value} (hf : G.find key = some (d, N')) (hk : (key, ks) ∈ G.kws) (I : Inv X pins σ H s) (r : Vals zs uz) (S : StoreR X.K g st H) {vs0 : List Val} (rs : RVs X.K g zs vs0)
    (hb : byNameL ks vs0 (parsOf d) = some ws) (h : Out X.K (RV X.K) (WE W σ) g H (call key ws st) Q) :
    wpAny (model X.prog X.w) X.A (PySem.call (.ref (He.fAd X.K key)) [] (ks.zip uz)) (EP X pins σ Q) X.xe s := by
  obtain ⟨fd, F, _, kb⟩ := C.fns key d N' hf
  have KB := kb ks hk
  have hlen : vs0.length = ks.length := by
    unfold byNameL at hb
    split at hb
    · assumption
    · cases hb
  have hb : byName (ks.zip vs0) (parsOf d) = some ws := by
    unfold byNameL at hb
    rw [if_pos hlen] at hb
    exact hb
  obtain ⟨ys, e1, r1⟩ := byName_rel (F := RV X.K g) (ks := ks) rs hb
  have e2 : byNameD ks (parsOf d) [] zs = ys := by
    show (byNameL ks zs (parsOf d)).getD [] = ys
    unfold byNameL
    have hz : zs.length = vs0.length := Paired.length rs
    rw [if_pos (hz.trans hlen), e1]
    rfl
  have r2 := KB.rel (vs := []) (us := []) .nil r
  have h2 : spI X.K call key (parsOf d).length (byNameD ks (parsOf d) [] zs) H Q (WE W σ) := by
    rw [e2]
    exact C.spK hf r1 S h
  have hl : (byNameD ks (parsOf d) [] uz).length = (parsOf d).length := by rw [← r2.length]; exact F.len _ _ _ _ h2
  refine wpAny_call (codeAny_mono (F.run X.A X.stack s H ⟨[], ks.zip uz⟩ _ _ Q (WE W σ) (C.room.mono (Nat.le_succ _)) I.env0 (KB.to s [] uz I.kIn hl) r2 h2) fun r s' hq => ?_)
  cases r with
  | error e => exact passAt C.tk σ pins H s e s' I hq
  | ok fl =>
    cases fl with
    | ret u => exact I.after hq
    | next => exact False.elim hq
    | brk => exact False.elim hq
    | cont => exact False.elim hq
theorem s_callK (C : CtxE G call k N sc W X) {mf : Expr → IP.Env → M Val} {x : Str} {p pos : Pos} {kws : List Keyword} {ks : List Str} (hf : G.find (x, none) = some (d, N')) (h0 : okName x = true) (hg : isGl sc x = true) (hks : keysOf kws = some ks) (hk : ((x, none), ks) ∈ G.kws) (he : ∀ w ∈ kws, PE X w.value (tE X.K W (mf w.value))) :
    PE X (.Call (.Name x p) [] kws pos) (tE X.K W fun env => do
      let vs ← evK (fun e => mf e env) kws
      match byNameL ks vs (parsOf d) with
      | some ws => call (x, none) ws
      | none => bad) := by
  obtain ⟨hm, hkp⟩ := C.glob.fn x _ hf
  refine ⟨fun pins s σ H Q I h => ?_⟩
  refine wpAny_Call_Name_kw (ld_glob I (gl_ok C hg) hm ?_ (okName_ok h0).1)
  obtain ⟨k1, k2, k3⟩ := keys_some (env := X.env) (pos := pos) hks
  refine PySem.W.callWith_KW0 (h₀ := X.base) I.ok.mod.kin hkp k1 (thn ((s_kws he).run pos pins s σ H _ I (tM_bind (rel := RVs X.K) h)) fun uz s1 ⟨zs, H1, I1, r, q⟩ => ⟨I1.kIn, ?_⟩) (by rw [k2]; rfl)
  obtain ⟨g, env, vs, st, S, R, rs, q⟩ := q
  rw [k3]
  cases hb : byNameL ks vs (parsOf d) with
  | none =>
    rw [hb] at q
    exact q.elim
  | some ws =>
    rw [hb] at q
    exact run_callK C hf hk I1 r S rs hb q
end
end IP

set_option maxHeartbeats 4000000
/-! IP15: o.m(..): of an own instance, of a list. -/
namespace IP
open PySem PySem.Spec PyProof.Rows L2
/-- a method call, at any receiver -/
theorem methcall_wp {prog : Program} {w : World} {A : Around} {E : Value → Shared → Prop} {s : Shared} {env : PySem.Env} {o : Expr} {name : Str} {apos pos : Pos} {args : List Expr} {Q : Value → Shared → Prop}
    (hbase : attributeBase o name env (eval o env) = eval o env) (hfew : args.length < 20) (hst : args.any isStar = false) (hline : (apos.endLine == pos.line) = true)
    (h : wpAny (model prog w) A (eval o env) (fun ov s₁ => wpAny (model prog w) A (getMethod ov name (do return (← importBound o env).getD true)) (fun fx s₂ => wpAny (model prog w) A (callWith pos fx.1 fx.2 (backTo pos (starEach args env)) []) Q E s₂) E s₁) E s) :
    wpAny (model prog w) A (eval (.Call (.Attribute o name apos) args [] pos) env) Q E s := by
  rw [arm_eval_Call, hbase]
  refine wpAny_bind (wpAny_mono h (fun ov s₁ h₁ => ?_) fun _ _ e => e)
  refine wpAny_bind (wpAny_standAt ?_)
  have hform : methodCallForm (args.length + ([] : List Keyword).length) (backTo pos (starEach args env)) (backToKw pos (keywordEach [] env)) = true := by
    unfold methodCallForm
    have e1 : (backTo pos (starEach args env)).all (fun x => !x.1) = true := by
      rw [List.all_eq_true]
      intro x hx
      have := List.any_eq_false.mp (star_none (pos := pos) (env := env) hst) x hx
      simpa using this
    rw [e1]
    have e2 : (backToKw pos (keywordEach [] env)) = [] := rfl
    rw [e2]
    simp
    omega
  have hpos : methodCallPos true o env apos pos = pure pos := by unfold methodCallPos; simp [hline]
  unfold methodCall
  rw [hform]
  refine wpAny_bind (wpAny_holding ?_)
  refine wpAny_mono h₁ (fun fx s₂ h₂ => ?_) fun _ _ e => e
  exact wpAny_bind (wpAny_of_eq hpos h₂)
section
variable {G : Glob} {call : Key2 → List Val → M Val} {k : Nat} {N : List Str} {sc : Scope} {W : WX} {X : Cx}
variable {pins : List (Addr × Obj)} {s : Shared} {σ : L2.St} {H : Hp} {Q : VK} {us : List Value} {vs : List V} {ws : List Val} {g : GS} {st : Store}
theorem ins_of {x : V} {v : Val} {c : Str} {ns : List Str} (S : StoreR X.K g st H) (r : RV X.K g x v) (e : insOf v st = some (c, ns)) : ∃ a dx fs, x = .ref a ∧ H a = some (.ins (He.ga X.K c) dx fs) ∧ fs.map (·.1) = ns := by
  unfold insOf at e
  split at e
  · cases e
    cases (show RD X.K g.B x (.obj _ _ _) from r) with
    | obj hB hn hr => exact ⟨_, _, _, rfl, S.sub _ _ hB, hn⟩
  · split at e
    · rename_i e1
      cases e
      obtain ⟨a, e2, e3, dx, fs, hH, hn, hr⟩ := r.cellAt S e1
      exact ⟨a, _, _, e2, hH, hn⟩
    · cases e
  · cases e
theorem look_none {f : Str} : ∀ {fs : List (Str × V)}, f ∉ fs.map (·.1) → fs.lookup f = none
  | [], _ => rfl
  | (n, y) :: fs, h => by
    simp only [List.map_cons, List.mem_cons, not_or] at h
    rw [List.lookup_cons, beq_eq_false_iff_ne.mpr h.1]
    exact look_none h.2
/-- a list, in a place that is no own instance -/
theorem recv_list {x : V} {v : Val} (S : StoreR X.K g st H) (r : RV X.K g x v) (e : insOf v st = none) (e2 : recvL v = true) : ∃ a xs, x = .ref a ∧ H a = some (.lst xs) := by
  unfold recvL at e2
  split at e2
  · rename_i n
    obtain ⟨a, e3, e4⟩ := r
    have hl : n < st.length := by
      have hl : g.ad.length = st.length := Paired.length S.cells
      rw [← hl]
      exact (List.getElem?_eq_some_iff.mp e4).1
    obtain ⟨b, e5, hc⟩ := S.cell (List.getElem?_eq_getElem hl)
    rw [e4] at e5
    cases e5
    have e6 : insOf (.r n) st = (match st[n]? with
      | some (.obj c ns _) => some (c, ns)
      | _ => none) := rfl
    rw [e6, List.getElem?_eq_getElem hl] at e
    revert hc e
    cases st[n] with
    | lst xs =>
      intro _ hc
      obtain ⟨ys, hH, _⟩ := hc
      exact ⟨a, ys, e3, hH⟩
    | obj c ns xs =>
      intro e _
      cases e
  · rename_i ds
    obtain ⟨a, xs, e3, hB, _⟩ := RD.lst_inv r
    exact ⟨a, xs, e3, S.sub _ _ hB⟩
  · cases e2
theorem idx_at {i : Int} : ∀ {is : List Int} {j : Nat}, idxI i is = some j → is[j]? = some i ∧ ∀ (m : Nat) (z : Int), m < j → is[m]? = some z → z ≠ i
  | [], j, h => by cases h
  | y :: is, j, h => by
    have h : (if y = i then some 0 else match idxI i is with
      | some i => some (i + 1)
      | none => none) = some j := h
    by_cases e : y = i
    · rw [if_pos e] at h
      cases h
      exact ⟨by simp [e], fun m z hm => by omega⟩
    · rw [if_neg e] at h
      cases q : idxI i is with
      | none =>
        rw [q] at h
        cases h
      | some j' =>
        rw [q] at h
        cases h
        obtain ⟨h1, h2⟩ := idx_at q
        refine ⟨by simpa using h1, fun m z hm hz => ?_⟩
        cases m with
        | zero =>
          simp at hz
          rw [← hz]
          exact e
        | succ m => exact h2 m z (by omega) (by simpa using hz)
/-- the value's list by ints -/
theorem run_index {x : V} {v : Val} {u : Value} {H : Hp} (I : Inv X pins σ H s) (rx : RelV x u) (r : RV X.K g x v) (S : StoreR X.K g st H) (rs : RVs X.K g vs ws) (ru : Vals vs us) (h : Out X.K (RV X.K) (WE W σ) g H (indexM v ws st) Q) :
    wpAny (model X.prog X.w) X.A (PySem.call (.builtin "list.index") (u :: us)) (EP X pins σ Q) X.xe s := by
  unfold indexM at h
  obtain ⟨y, e, q⟩ := liftP_ok h
  clear h
  split at e
  · rename_i i
    obtain ⟨w, hw, rw'⟩ := rs.one
    subst hw
    cases (show w = .int i from RD.int_inv rw')
    split at e
    · cases e
    · rename_i ht
      split at e
      · rename_i ds e1
        split at e
        · rename_i is e2
          split at e
          · rename_i j e3
            cases e
            obtain ⟨a, ys, rfl, h1, h2⟩ := dlist_of S r (by simpa using ht) e1
            have e4 := h2.ints e2
            subst e4
            obtain ⟨h5, h6⟩ := idx_at e3
            refine mt_index pins s σ H _ _ _ _ Q I rx ru ⟨a, _, .int i, j, .int i, rfl, rfl, .of h1, rfl, ?_, ?_, ?_, fun m z' hm hz => ?_, q _ _ _ S (.refl _ _) (.int _)⟩
            · rw [List.all_eq_true]
              intro z hz
              obtain ⟨n, _, rfl⟩ := List.mem_map.mp hz
              rfl
            · rw [List.getElem?_map, h5]
              rfl
            · show decide _ = true
              simp
            · rw [List.getElem?_map] at hz
              cases q7 : is[m]? with
              | none =>
                rw [q7] at hz
                cases hz
              | some z =>
                rw [q7] at hz
                cases hz
                have := h6 m z hm q7
                show decide _ = false
                simpa using this
          · cases e
        · cases e
      · cases e
  · cases e
theorem run_app {x : V} {v : Val} {u : Value} {H : Hp} (I : Inv X pins σ H s) (rx : RelV x u) (r : RV X.K g x v) (S : StoreR X.K g st H) (rs : RVs X.K g vs ws) (ru : Vals vs us) (h : Out X.K (RV X.K) (WE W σ) g H (appM v ws st) Q) :
    wpAny (model X.prog X.w) X.A (PySem.call (.builtin "list.append") (u :: us)) (EP X pins σ Q) X.xe s := by
  unfold appM at h
  cases ws with
  | nil => exact h.elim
  | cons w t =>
    cases t with
    | cons _ _ => exact h.elim
    | nil =>
      obtain ⟨y, hy, ry⟩ := rs.one
      subst hy
      cases v with
      | r n =>
        dsimp only at h
        cases e : st[n]? with
        | none =>
          rw [e] at h
          exact h.elim
        | some c =>
          rw [e] at h
          cases c with
          | obj _ _ _ => exact h.elim
          | lst xs =>
            dsimp only at h
            by_cases hl : xs.length < lim
            · rw [if_pos hl] at h
              obtain ⟨a, e2, e3, ys, hH, hr⟩ := r.cellAt S e
              subst e2
              have hlen : ys.length = xs.length := Paired.length hr
              obtain ⟨S', T⟩ := S.write (.lst (ys ++ [y])) (c := .lst (xs ++ [w])) e3 ⟨ys ++ [y], upd_self, paired_snoc hr ry⟩
              exact mt_append pins s σ H _ _ _ _ Q I rx ru ⟨a, ys, y, rfl, rfl, hH, by rw [hlen]; exact lim_line' (Nat.le_of_lt hl), h _ _ _ S' T .non⟩
            · rw [if_neg hl] at h
              exact h.elim
      | d _ => exact h.elim
      | ty _ => exact h.elim
      | scr _ => exact h.elim
theorem s_meth (C : CtxE G call k N sc W X) {mf : Expr → IP.Env → M Val} {o : Expr} {m : Str} {apos pos : Pos} {es : List Expr} (hline : (apos.endLine == pos.line) = true) (hfew : es.length < 20) (hp : plainB o = true) (hs : es.any isStar = false)
    (ho : PE X o (tE X.K W (mf o))) (he : ∀ e ∈ es, PE X e (tE X.K W (mf e))) :
    PE X (.Call (.Attribute o m apos) es [] pos) (tE X.K W fun env => do
        let x ← mf o env
        fun st => match insOf x st with
          | some (c, ns) => if m ∈ ns ∨ (G.find (c, some m)).isNone then .bad else (do call (c, some m) (x :: (← evL (fun e => mf e env) es))) st
          | none => if recvL x then
              if m = "append" then (do appM x (← evL (fun e => mf e env) es)) st
              else if m = "index" then (do indexM x (← evL (fun e => mf e env) es)) st
              else .bad
            else .bad) := by
  refine ⟨fun pins s σ H Q I h => ?_⟩
  refine methcall_wp (attrBase hp) hfew hs hline ?_
  refine thn (ho.run pins s σ H _ I (tM_bind (rel := RV X.K) h)) fun u s1 ⟨x, H1, I1, rx, q⟩ => ?_
  obtain ⟨g, env, v, st, S, R, r, q⟩ := q
  have q : Out X.K (RV X.K) (WE W σ) g H1 (match insOf v st with
          | some (c, ns) => if m ∈ ns ∨ (G.find (c, some m)).isNone then .bad else (do call (c, some m) (v :: (← evL (fun e => mf e env) es))) st
          | none => if recvL v then
              if m = "append" then (do appM v (← evL (fun e => mf e env) es)) st
              else if m = "index" then (do indexM v (← evL (fun e => mf e env) es)) st
              else .bad
            else .bad) Q := q
  cases e : insOf v st with
  | some cn =>
    obtain ⟨c, ns⟩ := cn
    rw [e] at q
    dsimp only at q
    by_cases hm : m ∈ ns ∨ (G.find (c, some m)).isNone
    · rw [if_pos hm] at q
      exact q.elim
    rw [if_neg hm, evL_ok hs] at q
    simp only [not_or] at hm
    obtain ⟨a, dx, fs, rfl, hH, hn⟩ := ins_of S r e
    subst hn
    obtain rfl : u = Value.ref a := rx
    -- the def
    have fnd : ∃ dn, G.find (c, some m) = some dn := by
      cases q7 : G.find (c, some m) with
      | none =>
        rw [q7] at hm
        exact absurd rfl hm.2
      | some dn => exact ⟨dn, rfl⟩
    obtain ⟨⟨d, N'⟩, hf⟩ := fnd
    obtain ⟨h1, h2⟩ := C.glob.meth c m _ hf
    refine getmeth_ok I1 hH h1 h2 (look_none hm.1) ?_
    cases es with
    | nil => exact PySem.W.callWith_K0 (first := [.ref a]) I1.kIn h2.kp (run_call (us := [.ref a]) (vs := [.ref a]) C hf I1 (.cons rfl .nil) S (.cons r .nil) q)
    | cons e es =>
      have hs' := hs
      simp only [List.any_cons, Bool.or_eq_false_iff] at hs'
      refine PySem.W.callWith_K (first := [.ref a]) (h₀ := X.base) I1.ok.mod.kin h2.kp (thn ((s_args he hs).run pos pins s1 σ H1 _ I1 ⟨g, env, st, S, R, Out.bind (rel := RVs X.K) q⟩) fun us s2 ⟨vs, H2, I2, r2, q2⟩ => ⟨I2.kIn, ?_⟩) (star_cons hs'.1) (star_none hs'.2)
      obtain ⟨g2, ws, st2, S2, T2, rs, q2⟩ := q2
      exact run_call (us := .ref a :: us) (vs := .ref a :: vs) C hf I2 (.cons rfl r2) S2 (.cons (r.step T2) rs) q2
  | none =>
    rw [e] at q
    dsimp only at q
    by_cases hr : recvL v = true
    case neg =>
      rw [if_neg hr] at q
      exact q.elim
    rw [if_pos hr, evL_ok hs] at q
    have q0 := q
    clear q
    obtain ⟨a, xs, e1, hH⟩ := recv_list S r e hr
    have ty : tyV X.K "list" x H1 := by
      rw [e1]
      exact .inl ⟨rfl, xs, SqL.of hH⟩
    obtain ⟨h1, h2⟩ := tyV_is I1 rx ty
    have args : ∀ {id : String} {F : Val → List Val → M Val}, (∀ {H : Hp} {s : Shared} {g : GS} {st : Store} {vs : List V} {ws : List Val} {us : List Value}, Inv X pins σ H s → RV X.K g x v → StoreR X.K g st H → RVs X.K g vs ws → Vals vs us → Out X.K (RV X.K) (WE W σ) g H (F v ws st) Q →
        wpAny (model X.prog X.w) X.A (PySem.call (.builtin id) (u :: us)) (EP X pins σ Q) X.xe s) → Out X.K (RV X.K) (WE W σ) g H1 ((evL0 (fun e => mf e env) es >>= fun ws => F v ws) st) Q →
        wpAny (model X.prog X.w) X.A (callWith pos (.builtin id) [u] (backTo pos (starEach es X.env)) []) (EP X pins σ Q) X.xe s1 := by
      intro id F hF q
      have hA := (s_args he hs).run pos pins s1 σ H1 _ I1 ⟨g, env, st, S, R, Out.bind (rel := RVs X.K) q⟩
      cases es with
      | nil =>
        refine Calls.callWith_builtin rfl (PyProof.Rows.evalArgs_nil3 ?_)
        exact hF I1 r S .nil .nil q
      | cons e es =>
        have hs' := hs
        simp only [List.any_cons, Bool.or_eq_false_iff] at hs'
        rw [star_cons hs'.1] at hA ⊢
        refine Calls.callWith_builtin (by show (false || (backTo pos (starEach es X.env)).any (·.1)) = false; rw [star_none hs'.2] <;> rfl) (Calls.evalArgs_plain ?_)
        refine thn hA fun us s2 ⟨vs, H2, I2, r2, q2⟩ => ?_
        obtain ⟨g2, ws, st2, S2, T2, rs, q2⟩ := q2
        exact hF I2 (r.step T2) S2 rs r2 q2
    by_cases ha : m = "append"
    · rw [if_pos ha] at q0
      subst ha
      refine getMethod_builtin h1 PySem.F.plainAttrs_list PySem.F.slot_list_append PySem.F.type_list_append h2 ?_
      exact args (F := appM) (fun I r S rs ru h => run_app I rx r S rs ru h) q0
    · rw [if_neg ha] at q0
      by_cases hi : m = "index"
      · rw [if_pos hi] at q0
        subst hi
        refine getMethod_builtin h1 PySem.F.plainAttrs_list PySem.F.slot_list_index PySem.F.type_list_index h2 ?_
        exact args (F := indexM) (fun I r S rs ru h => run_index I rx r S rs ru h) q0
      · rw [if_neg hi] at q0
        exact q0.elim
end
end IP

set_option maxHeartbeats 4000000
/-! IP16: cells dropped, frozen; own classes made; len. -/
namespace IP
open PySem PySem.Spec PyProof.Rows L2
section
variable {K : PySem.W.Frag} {g g' g1 : GS} {H H' H1 : Hp} {st st' : Store} {n : Nat}
theorem RV.trunc {B : Hp} {v : V} : ∀ {x : Val}, RV K ⟨B, g.ad⟩ v x → Val.low n x = true → RV K ⟨B, g.ad.take n⟩ v x
  | .d _, h, _ => h
  | .r m, h, e => by
    obtain ⟨a, e1, e2⟩ := h
    have hm : m < n := by simpa [Val.low] using e
    refine ⟨a, e1, ?_⟩
    show (g.ad.take n)[m]? = some a
    rw [List.getElem?_take_of_lt hm]
    exact e2
  | .ty _, h, _ => h
  | .scr _, h, _ => h
theorem RVs.trunc {B : Hp} : ∀ {vs : List V} {xs : List Val}, RVs K ⟨B, g.ad⟩ vs xs → xs.all (Val.low n) = true → RVs K ⟨B, g.ad.take n⟩ vs xs
  | _, _, .nil, _ => .nil
  | _, _, .cons h t, e => by
    simp only [List.all_cons, Bool.and_eq_true] at e
    exact .cons (RV.trunc h e.1) (RVs.trunc t e.2)
theorem CellR.trunc {B : Hp} {a : Addr} : ∀ {c : Cell}, CellR K ⟨B, g.ad⟩ H a c → Cell.low n c = true → CellR K ⟨B, g.ad.take n⟩ H a c
  | .lst _, ⟨vs, h1, h2⟩, e => ⟨vs, h1, RVs.trunc h2 e⟩
  | .obj _ _ _, ⟨dx, fs, h1, h2, h3⟩, e => ⟨dx, fs, h1, h2, RVs.trunc h3 e⟩
theorem paired_take {α β : Type} {F G : α → β → Prop} : ∀ {n : Nat} {l₁ : List α} {l₂ : List β}, Paired F l₁ l₂ → (∀ x y, x ∈ l₁ → y ∈ l₂.take n → F x y → G x y) → Paired G (l₁.take n) (l₂.take n)
  | 0, _, _, _, _ => .nil
  | n + 1, _, _, .nil, _ => .nil
  | n + 1, _, _, .cons h t, f => .cons (f _ _ List.mem_cons_self (by simp) h) (paired_take t fun x y m1 m2 => f x y (List.mem_cons_of_mem _ m1) (by simp [m2]))
theorem StoreR.trunc (S : StoreR K g st H) (e : (st.take n).all (Cell.low n) = true) : StoreR K ⟨g.B, g.ad.take n⟩ (st.take n) H where
  sub := S.sub
  off := fun a m => S.off a (List.mem_of_mem_take m)
  nd := S.nd.sublist (List.take_sublist _ _)
  cells := paired_take S.cells fun x y m1 m2 h => CellR.trunc (g := g) h (List.all_eq_true.mp e y m2)
theorem Step.back (T : Step g H g' H') (hn : n = g.ad.length) : Step g H ⟨g'.B, g'.ad.take n⟩ H' where
  sub := T.sub
  pre := by
    obtain ⟨l, e⟩ := T.pre
    refine ⟨[], ?_⟩
    show g'.ad.take n = g.ad ++ []
    rw [e, hn, List.take_left']
    · simp
    · rfl
  newB := T.newB
  newA := fun a m => T.newA a (List.mem_of_mem_take m)
  keep := T.keep
  dom := T.dom
/-- a cell of no one's becomes data -/
theorem StoreR.freeze {x : Addr} {o : HO} (S : StoreR K g st H) (hx : x ∉ g.ad) (hB : g.B x = none) (hH : H x = some o) : StoreR K ⟨upd g.B x o, g.ad⟩ st H where
  sub := fun a u e => by
    by_cases h : a = x
    · subst h
      have e' : upd g.B a o a = some u := e
      rw [upd_same] at e'
      cases e'
      exact hH
    · have e' : upd g.B x o a = some u := e
      rw [upd_ne h] at e'
      exact S.sub _ _ e'
  off := fun a m => by
    show upd g.B x o a = none
    have m' : a ∈ g.ad := m
    rw [upd_ne fun z => hx (by rw [← z]; exact m')]
    exact S.off a m'
  nd := S.nd
  cells := paired_mem S.cells fun a c m q => q.mono (g := g) (g' := ⟨upd g.B x o, g.ad⟩) (fun b u e => by
    show upd g.B x o b = some u
    rw [upd_ne fun z => by rw [z, hB] at e; cases e]
    exact e) ⟨[], by simp⟩ rfl
theorem Step.freeze {x : Addr} {o : HO} (T : Step g H g' H') (hx : H x = none) (hB : g'.B x = none) : Step g H ⟨upd g'.B x o, g'.ad⟩ H' where
  sub := fun a u e => by
    have := T.sub _ _ e
    show upd g'.B x o a = some u
    rw [upd_ne fun z => by rw [z, hB] at this; cases this]
    exact this
  pre := T.pre
  newB := fun a h => by
    by_cases q : a = x
    · exact .inr (q ▸ hx)
    · have h' : upd g'.B x o a ≠ none := h
      rw [upd_ne q] at h'
      exact T.newB a h'
  newA := T.newA
  keep := T.keep
  dom := T.dom
/-- an address of no one's -/
theorem StoreR.own {p : Addr} (o : HO) (S : StoreR K g st H) (hp : H p = none) : StoreR K g st (upd H p o) ∧ Step g H g (upd H p o) := by
  have hB : g.B p = none := S.sub.free hp
  have hA : p ∉ g.ad := fun m => S.there m hp
  refine ⟨⟨fun b u e => ?_, S.off, S.nd, paired_mem S.cells fun a c m q => q.mono (g := g) (g' := g) (Same.refl _) ⟨[], by simp⟩ (upd_ne fun z => hA (by rw [← z]; exact m))⟩, ⟨Same.refl _, ⟨[], by simp⟩, fun a z => .inl z, fun a m => .inl m, fun a u e _ => ?_, fun a z => ?_⟩⟩
  · rw [upd_ne (ne_of_none e hB)]
    exact S.sub b u e
  · rw [upd_ne (ne_of_none e hp)]
    exact e
  · by_cases hb : a = p
    · rw [hb, upd_same]
      simp
    · rw [upd_ne hb]
      exact z
end
section
variable {G : Glob} {call : Key2 → List Val → M Val} {k : Nat} {N : List Str} {sc : Scope} {W : WX} {X : Cx}
variable {pins : List (Addr × Obj)} {s : Shared} {σ : L2.St} {H : Hp} {Q : VK} {us : List Value} {vs : List V} {ws : List Val} {g : GS} {st : Store}
theorem get_ad {g : GS} {st : Store} {H : Hp} (S : StoreR X.K g st H) : g.ad.length = st.length := Paired.length S.cells
/-- behind __init__: Out of C(..) -/
theorem make_out {c : Str} {x dx : Addr} {E : XK} (S : StoreR X.K g st H) (rs : RVs X.K g vs ws) (hx : H x = none) (hdx : H dx = none) (ne : dx ≠ x)
    (h : Out X.K (RV X.K) E g H (makeM G call c ws st) Q) :
    ∃ g1, StoreR X.K g1 (st ++ [.obj c [] []]) (upd (upd H dx (.own x)) x (.ins (He.ga X.K c) dx [])) ∧ RVs X.K g1 (.ref x :: vs) (.r st.length :: ws) ∧
      Out X.K (RV X.K) E g1 (upd (upd H dx (.own x)) x (.ins (He.ga X.K c) dx [])) (call (c, some "__init__") (.r st.length :: ws) (st ++ [.obj c [] []])) fun v H2 => v = .non ∧ Q (.ref x) H2 := by
  obtain ⟨S1, T1⟩ := S.own (.own x) hdx
  have hx1 : upd H dx (.own x) x = none := by
    rw [upd_ne fun z => ne z.symm]
    exact hx
  obtain ⟨S2, T2⟩ := S1.allocC (.ins (He.ga X.K c) dx []) (c := .obj c [] []) hx1 ⟨dx, [], upd_self, rfl, .nil⟩
  have T12 := T1.trans T2
  have ex : (g.ad ++ [x])[st.length]? = some x := by
    rw [← get_ad S]
    simp
  refine ⟨_, S2, .cons ⟨x, rfl, ex⟩ (rs.step T12), ?_⟩
  have hB1 : g.B x = none := S.sub.free hx
  unfold makeM at h
  revert h
  cases call (c, some "__init__") (.r st.length :: ws) (st ++ [.obj c [] []]) with
  | bad => exact fun h => h
  | exc e xs st' => exact fun h g' H' cls d S' T' r => h g' H' cls d S' (T12.trans T') r
  | ok v st' =>
    cases v with
    | r _ => exact fun h => h.elim
    | ty _ => exact fun h => h.elim
    | scr _ => exact fun h => h.elim
    | d dv =>
      cases dv with
      | non =>
        intro h y g' H' S' T' r
        refine ⟨RD.non_inv r, ?_⟩
        have ex' : g'.ad[st.length]? = some x := by
          obtain ⟨l, e⟩ := T'.pre
          rw [e]
          show (g.ad ++ [x] ++ l)[st.length]? = some x
          rw [List.getElem?_append_left (List.getElem?_eq_some_iff.mp ex).1]
          exact ex
        have T := T12.trans T'
        dsimp only at h
        cases hc : lookS G.cls c with
        | none =>
          rw [hc] at h
          exact h.elim
        | some b =>
          rw [hc] at h
          cases b with
          | false => exact h _ _ _ S' T ⟨x, rfl, ex'⟩
          | true =>
            dsimp only at h
            cases e : st'[st.length]? with
            | none =>
              rw [e] at h
              exact h.elim
            | some cl =>
              rw [e] at h
              cases cl with
              | lst _ => exact h.elim
              | obj c' ns xs =>
                dsimp only at h
                cases hp : pureL xs with
                | none =>
                  rw [hp] at h
                  exact h.elim
                | some ds =>
                  rw [hp] at h
                  dsimp only at h
                  by_cases hl : ((st'.take st.length).all (Cell.low st.length) && decide (c' = c)) = true
                  · rw [if_pos hl] at h
                    simp only [Bool.and_eq_true, decide_eq_true_eq] at hl
                    obtain ⟨hl, rfl⟩ := hl
                    obtain ⟨a, e2, hcell⟩ := S'.cell e
                    rw [ex'] at e2
                    cases e2
                    obtain ⟨dx', fs, hH, hn, hr⟩ := hcell
                    have had : g'.ad.take st.length = g.ad := by
                      obtain ⟨l, e⟩ := T.pre
                      rw [e, List.take_left']
                      exact get_ad S
                    have S3 := S'.trunc hl
                    have T3 := T.back (get_ad S).symm
                    have hxB : g'.B x = none := S'.off x (List.mem_of_getElem? ex')
                    have hxA : x ∉ g'.ad.take st.length := by
                      rw [had]
                      exact fun m => S.there m hx
                    have S4 := S3.freeze hxA hxB hH
                    have T4 := T3.freeze (o := .ins (He.ga X.K c') dx' fs) hx hxB
                    refine h _ _ _ S4 T4 (RD.obj upd_self hn ((pure_RVs hr hp).mono fun b u q => ?_))
                    show upd g'.B x _ b = some u
                    rw [upd_ne fun z => by rw [z, hxB] at q; cases q]
                    exact q
                  · rw [if_neg hl] at h
                    exact h.elim
      | _ => exact fun h => h.elim
theorem run_make' (C : CtxE G call k N sc W X) {c : Str} {b : Bool} (hc : lookS G.cls c = some b) {d : He.DefD} {N' : List Str} (hf : G.find (c, some "__init__") = some (d, N')) (I : Inv X pins σ H s) (r : Vals vs us) (S : StoreR X.K g st H) (rs : RVs X.K g vs ws) (h : Out X.K (RV X.K) (WE W σ) g H (makeM G call c ws st) Q) :
    wpAny (model X.prog X.w) X.A (PySem.call (.ref (He.ga X.K c)) us) (EP X pins σ Q) X.xe s := by
  obtain ⟨h0, h1, M⟩ := C.glob.cls c b hc
  obtain ⟨fd, F, hb, _⟩ := C.fns _ d N' hf
  have hxn : H (s.heap.objs.size + 1) = none := I.hok.fresh (Nat.le_succ _)
  have hdn : H s.heap.objs.size = none := I.hok.fresh (Nat.le_refl _)
  obtain ⟨g1, S1, r1, o1⟩ := make_out S rs hxn hdn (Nat.ne_of_lt (Nat.lt_succ_self _)) h
  have hq := C.spK hf r1 S1 o1
  have I2 := Inv.made (C := He.ga X.K c) I
  have r2 : Vals (V.ref (s.heap.objs.size + 1) :: vs) (Value.ref (s.heap.objs.size + 1) :: us) := .cons rfl r
  have hl : ((Value.ref (s.heap.objs.size + 1) :: us) ++ []).length = (parsOf d).length := by
    have e := r2.length
    rw [F.len _ _ _ _ hq] at e
    rw [List.append_nil]
    exact e.symm
  have bb := hb.binds _ (Value.ref (s.heap.objs.size + 1) :: us) I2.kIn hl
  rw [List.append_nil] at bb
  refine wpAny_call (make_map (f := He.fAd X.K (c, some "__init__")) I.kIn M.makes M.init (beq_iff_eq.mp M.fn) (codeAny_mono (F.run _ X.stack _ _ ⟨Value.ref (s.heap.objs.size + 1) :: us, []⟩ (Value.ref (s.heap.objs.size + 1) :: us) _ _ (WE W σ) (C.room.make _ us [])
    (I2.env0.make _ us []) bb r2 hq) fun r s' hq' => ?_))
  cases r with
  | error e => exact passAt C.tk σ pins _ _ e s' I2 hq'
  | ok fl =>
    cases fl with
    | ret u =>
      obtain ⟨v, H', I3, rv, ev, q3⟩ := I2.after hq'
      subst ev
      exact ⟨rv, ⟨V.ref (s.heap.objs.size + 1), H', I3, rfl, q3⟩⟩
    | next => exact False.elim hq'
    | brk => exact False.elim hq'
    | cont => exact False.elim hq'
theorem s_make (C : CtxE G call k N sc W X) {mf : Expr → IP.Env → M Val} {x : Str} {p pos : Pos} {es : List Expr} {b : Bool} (hc : lookS G.cls x = some b) {d : He.DefD} {N' : List Str} (hf : G.find (x, some "__init__") = some (d, N')) (h0 : okName x = true) (hg : isGl sc x = true) (he : ∀ e ∈ es, PE X e (tE X.K W (mf e))) :
    PE X (.Call (.Name x p) es [] pos) (tE X.K W fun env => do makeM G call x (← evL (fun e => mf e env) es)) := by
  cases hs : es.any isStar with
  | true => exact PE_to PE_bad fun env => by rw [evL_bad hs, bad_bind]
  | false =>
    obtain ⟨hm, _, M⟩ := C.glob.cls x _ hc
    refine PE_to (m := fun env => evL0 (fun e => mf e env) es >>= fun vs => makeM G call x vs) ⟨fun pins s σ H Q I h => ?_⟩ fun env => by rw [evL_ok hs]
    refine wpAny_Call_Name_kw (ld_glob I (gl_ok C hg) hm ?_ (okName_ok h0).1)
    cases es with
    | nil =>
      obtain ⟨g, env, st, S, R, h⟩ := h
      exact PySem.W.callWith_K0 I.kIn M.kp (run_make' C hc hf I .nil S .nil h)
    | cons e es =>
      have hs' := hs
      simp only [List.any_cons, Bool.or_eq_false_iff] at hs'
      refine PySem.W.callWith_K (h₀ := X.base) I.ok.mod.kin M.kp (thn ((s_args he hs).run pos pins s σ H _ I (tM_bind (rel := RVs X.K) h)) fun us s1 ⟨vs, H1, I1, r, q⟩ => ⟨I1.kIn, ?_⟩) (star_cons hs'.1) (star_none hs'.2)
      obtain ⟨g, env, ws, st, S, R, rs, q⟩ := q
      exact run_make' C hc hf I1 r S rs q
/-! ### built-ins -/
/-- a built-in's call, by what it does to values -/
theorem run_blt {id : String} {F : List Val → Store → Option Val} (hc : CallR X (.builtin id) (rB X.K F)) (I : Inv X pins σ H s) (r : Vals vs us) (S : StoreR X.K g st H) (rs : RVs X.K g vs ws) (h : Out X.K (RV X.K) (WE W σ) g H (liftP (F ws) st) Q) :
    wpAny (model X.prog X.w) X.A (PySem.call (.builtin id) us) (EP X pins σ Q) X.xe s := by
  obtain ⟨y, e, q⟩ := liftP_ok h
  exact hc pins s σ H vs us Q I r ⟨g, st, ws, y, S, rs, e, .of q⟩
theorem run_ty {id : String} {F : List Val → Store → Option Val} (hc : CallR X (.type id) (rB X.K F)) (I : Inv X pins σ H s) (r : Vals vs us) (S : StoreR X.K g st H) (rs : RVs X.K g vs ws) (h : Out X.K (RV X.K) (WE W σ) g H (liftP (F ws) st) Q) :
    wpAny (model X.prog X.w) X.A (PySem.call (.type id) us) (EP X pins σ Q) X.xe s := by
  obtain ⟨y, e, q⟩ := liftP_ok h
  exact hc pins s σ H vs us Q I r ⟨g, st, ws, y, S, rs, e, .of q⟩
end
end IP

set_option maxHeartbeats 4000000
/-! IP17: calls of built-ins by name. -/
namespace IP
open PySem PySem.Spec PyProof.Rows L2
section
variable {G : Glob} {call : Key2 → List Val → M Val} {k : Nat} {N : List Str} {sc : Scope} {W : WX} {X : Cx}
variable {pins : List (Addr × Obj)} {s : Shared} {σ : L2.St} {H : Hp} {Q : VK} {us : List Value} {vs : List V} {ws : List Val} {g : GS} {st : Store}
/-- isinstance -/
theorem tyX_of {x : V} {v : Val} {t : String} (S : StoreR X.K g st H) (r : RV X.K g x v) (e : tyOf v st = some t) : TyX X.K H x (.type t) := by
  unfold tyOf at e
  split at e
  · cases e
    cases RD.non_inv r
    exact .base .non
  · cases e
    cases RD.bl_inv r
    exact .base (.bl _)
  · cases e
    cases RD.int_inv r
    exact .base (.int _)
  · cases e
    cases (show RD X.K g.B x (.str _) from r) with
    | str z => exact .base (.str _)
  · cases e
    obtain ⟨a, xs, rfl, h, _⟩ := RD.tup_inv r
    rcases S.sqT h with (h | ⟨o, h⟩) | ⟨o, its, n, h1, h2, _⟩
    · exact .base (.tup h)
    · exact .fTuple h
    · exact .kTuple h1 h2
  · cases e
    obtain ⟨a, xs, rfl, h, _⟩ := RD.lst_inv r
    exact .base (.lst (S.sub _ _ h))
  · rename_i n
    split at e
    · rename_i e1
      cases e
      obtain ⟨a, rfl, _, ys, h, _⟩ := r.cellAt S e1
      exact .base (.lst h)
    · cases e
  · cases e
theorem isAny_ok {t : String} : ∀ {ts : List String} {b : Bool}, isAny t ts = some b → PySem.W.kitAny X.K (.type t) (ts.map Value.type) = some b
  | [], b, h => by
    cases h
    rfl
  | c :: cs, b, h => by
    unfold isAny at h
    cases q : isTy t c with
    | none =>
      rw [q] at h
      cases h
    | some b1 =>
      rw [q] at h
      have e1 : PySem.W.kitOne X.K (.type t) (.type c) = some b1 := by
        unfold isTy at q
        split at q
        · exact kit_ty q
        · cases q
      cases b1 with
      | true =>
        dsimp only at h
        cases q2 : isAny t cs with
        | none =>
          rw [q2] at h
          cases h
        | some b2 =>
          rw [q2] at h
          cases h
          exact kitAny_cons e1 (fun z => by cases z) fun _ => rfl
      | false => exact kitAny_cons e1 (fun _ => isAny_ok h) fun z => by cases z
theorem tys_of {g : GS} : ∀ {ys : List V} {ws : List Val} {ts : List String}, RVs X.K g ys ws → tysOf ws = some ts → Paired ClsV ys (ts.map Value.type) ∧ ys = ts.map V.ty
  | _, [], ts, .nil, e => by
    cases e
    exact ⟨.nil, rfl⟩
  | y :: ys, .ty n :: ws, ts, .cons h t, e => by
    have e : (match tysOf ws with
      | some xs => some (n :: xs)
      | none => none) = some ts := e
    cases q : tysOf ws with
    | none =>
      rw [q] at e
      cases e
    | some l =>
      rw [q] at e
      cases e
      obtain ⟨h1, h2⟩ := tys_of t q
      cases (show y = .ty n from h)
      exact ⟨.cons (.ty n) h1, by rw [h2]; rfl⟩
  | _, .d _ :: _, _, .cons _ _, e => by cases e
  | _, .r _ :: _, _, .cons _ _, e => by cases e
  | _, .scr _ :: _, _, .cons _ _, e => by cases e
theorem isi_some {v : Val} {cs : List Val} {r : Val} (e : biIsi v cs st = some r) : ∃ t ts b, tyOf v st = some t ∧ tysOf cs = some ts ∧ isAny t ts = some b ∧ r = .d (.bl b) := by
  unfold biIsi at e
  split at e
  · rename_i t ts h1 h2
    split at e
    · rename_i b h3
      cases e
      exact ⟨t, ts, b, h1, h2, h3, rfl⟩
    · cases e
  · cases e
theorem cr_isi : CallR X (.builtin "isinstance") (rB X.K (f2 fun x y => biIsi x [y])) := by
  intro pins s σ H xs us Q I rv h
  obtain ⟨g, st, vs, r, S, rs, e, w⟩ := h
  unfold f2 at e
  split at e
  · rename_i v c
    obtain ⟨x, y, rfl, rx, ry⟩ := rs.two
    obtain ⟨t, ts, b, e1, e2, e3, rfl⟩ := isi_some e
    obtain ⟨h1, h2⟩ := tys_of (ys := [y]) (.cons ry .nil) e2
    match ts, h1, h2, e3 with
    | [t1], .cons hc .nil, h2, e3 =>
      have e4 : PySem.W.kitAny X.K (.type t) [.type t1] = some b := isAny_ok (ts := [t1]) e3
      have e5 : PySem.W.kitOne X.K (.type t) (.type t1) = some b := by
        unfold PySem.W.kitAny at e4
        cases q : PySem.W.kitOne X.K (.type t) (.type t1) with
        | none =>
          rw [q] at e4
          cases e4
        | some b1 =>
          rw [q] at e4
          cases b1 with
          | true => rw [← e4]
          | false =>
            rw [← e4]
            rfl
      exact call_isi pins s σ H _ us Q I rv ⟨x, y, _, _, b, rfl, hc, tyX_of S rx e1, e5, w.here S (.bl b)⟩
  · cases e
/-- a built-in's value and what its call does -/
theorem bi_ok (hc : X.calm = true) {f : Str} {n : Nat} {F : List Val → P Val} (e : biF f n = some F) :
    (∃ id, bootBuiltins f = some (.builtin id) ∧ CallR X (.builtin id) (rB X.K F)) ∨ (∃ T, bootBuiltins f = some (.type T) ∧ CallR X (.type T) (rB X.K F)) := by
  unfold biF at e
  split at e
  · repeat' (split at e)
    all_goals first | (cases e; done) | skip
    all_goals (rename_i hf; cases e; subst hf)
    · exact .inl ⟨"sum", by rfl, cr_sum' hc⟩
    · exact .inl ⟨"max", by rfl, cr_max' hc⟩
    · exact .inl ⟨"min", by rfl, cr_min' hc⟩
    · exact .inl ⟨"any", by rfl, cr_any' hc⟩
    · exact .inl ⟨"all", by rfl, cr_all' hc⟩
    · exact .inr ⟨"tuple", by rfl, cr_tuple'⟩
    · exact .inr ⟨"list", by rfl, cr_list'⟩
    · exact .inl ⟨"sorted", by rfl, cr_sorted'⟩
    · exact .inr ⟨"int", by rfl, cr_int'⟩
    · exact .inl ⟨"abs", by rfl, cr_abs'⟩
  · split at e
    · repeat' (split at e)
      all_goals first | (cases e; done) | skip
      all_goals (rename_i hf; cases e; subst hf)
      · exact .inl ⟨"max", by rfl, cr_max2' hc⟩
      · exact .inl ⟨"min", by rfl, cr_min2' hc⟩
      · exact .inl ⟨"isinstance", by rfl, cr_isi⟩
    · cases e
theorem s_bi (C : CtxE G call k N sc W X) {mf : Expr → IP.Env → M Val} {x : Str} {p pos : Pos} {es : List Expr} {F : List Val → P Val} (hF : biF x es.length = some F) (hx : x ∈ G.free) (h0 : okName x = true) (hg : isGl sc x = true) (he : ∀ e ∈ es, PE X e (tE X.K W (mf e))) :
    PE X (.Call (.Name x p) es [] pos) (tE X.K W fun env => do
      let vs ← evL (fun e => mf e env) es
      liftP (F vs)) := by
  cases hs : es.any isStar with
  | true => exact PE_to PE_bad fun env => by rw [evL_bad hs, bad_bind]
  | false =>
    cases es with
    | nil =>
      exfalso
      unfold biF at hF
      simp at hF
    | cons e es =>
      have hs' := hs
      simp only [List.any_cons, Bool.or_eq_false_iff] at hs'
      refine PE_to (m := fun env => evL0 (fun e => mf e env) (e :: es) >>= fun vs => liftP (F vs)) ⟨fun pins s σ H Q I h => ?_⟩ fun env => by rw [evL_ok hs]
      have ha := s_args he hs
      rcases bi_ok C.calm hF with ⟨id, hb, hc⟩ | ⟨T, hb, hc⟩
      · refine wpAny_Call_Name_kw (ld_blt I (gl_ok C hg) (C.glob.free x hx) hb ?_ (okName_ok h0).2.2 (okName_ok h0).1)
        refine PyProof.Rows.callWith_builtin1 (thn (ha.run pos pins s σ H _ I (tM_bind (rel := RVs X.K) h)) fun us s1 ⟨vs, H1, I1, r1, q1⟩ => ?_) (star_cons hs'.1) (star_none hs'.2)
        obtain ⟨g, env, ws, st, S, R, rs, q⟩ := q1
        exact run_blt hc I1 r1 S rs q
      · refine wpAny_Call_Name_kw (ld_blt I (gl_ok C hg) (C.glob.free x hx) hb ?_ (okName_ok h0).2.2 (okName_ok h0).1)
        refine PyProof.Rows.callWith_type1 (thn (ha.run pos pins s σ H _ I (tM_bind (rel := RVs X.K) h)) fun us s1 ⟨vs, H1, I1, r1, q1⟩ => ?_) (star_cons hs'.1) (star_none hs'.2)
        obtain ⟨g, env, ws, st, S, R, rs, q⟩ := q1
        exact run_ty hc I1 r1 S rs q
/-- isinstance(a, (..)) -/
theorem s_isi (C : CtxE G call k N sc W X) {mf : Expr → IP.Env → M Val} {x : Str} {a : Expr} {cs : List Expr} {k2 : Nat} {p p2 pos : Pos} (hx : x = "isinstance") (hf : x ∈ G.free) (hg : isGl sc x = true) (ha : isStar a = false) (hcs : cs.any isStar = false) (hl : cs.length ≤ 100)
    (he : PE X a (tE X.K W (mf a))) (hec : ∀ e ∈ cs, PE X e (tE X.K W (mf e))) :
    PE X (.Call (.Name x p) [a, .Tuple cs k2 p2] [] pos) (tE X.K W fun env => do
      let x ← mf a env
      let ys ← evL (fun e => mf e env) cs
      liftP (biIsi x ys)) := by
  subst hx
  refine PE_to (m := fun env => mf a env >>= fun x => evL0 (fun e => mf e env) cs >>= fun ys => liftP (biIsi x ys)) (PE_imp (pe_callB call_isiT (gl_ok C hg) (C.glob.free _ hf) boot_isinstance (pa_cons he (pa_cons (pe_tup (s_args hec hcs)) pa_nil rfl) (star_cons ha)) (by decide) (by decide) (star_cons ha) rfl) fun σ H Q h => ?_) fun env => by rw [evL_ok hcs]
  refine tM_imp (tM_bind (rel := RV X.K) h) fun x H1 ⟨g, env, v, st, S, R, r, q⟩ => ?_
  refine ⟨g, env, st, S, R, Out.imp (Out.bindE (rel := RVs X.K) q) fun ys H2 ⟨g2, ws, st2, e9, S2, T2, r2, q⟩ => ?_⟩
  obtain ⟨z, e, q⟩ := liftP_ok q
  obtain ⟨t, ts, b, e1, e2, e3, rfl⟩ := isi_some e
  obtain ⟨h1, h2⟩ := tys_of r2 e2
  have r3 := r.step T2
  refine ⟨by rw [Paired.length r2, evL0_len e9, sizeLine_eq]; omega, fun p hp => ?_⟩
  obtain ⟨S3, T3⟩ := S2.alloc (.tup ys) hp
  exact ⟨x, p, ys, _, _, b, rfl, upd_self, h1, tyX_of S3 (r3.step T3) e1, isAny_ok e3, q _ _ _ S3 T3 (.bl b)⟩
theorem callR_or {f : Value} {r r' : List V → Hp → VK → Prop} (h : CallR X f r) (h' : CallR X f r') : CallR X f fun vs H Q => r vs H Q ∨ r' vs H Q := by
  intro pins s σ H vs us Q I rv q
  rcases q with q | q
  · exact h pins s σ H vs us Q I rv q
  · exact h' pins s σ H vs us Q I rv q
/-! ### sorted(set(a)) -/
theorem s_set (C : CtxE G call k N sc W X) {mf : Expr → IP.Env → M Val} {f y : Str} {a : Expr} {p p2 pos pos2 : Pos} (hf : f = "sorted") (hy : y = "set") (hff : f ∈ G.free) (hyf : y ∈ G.free) (hg : isGl sc f = true) (hgy : isGl sc y = true) (ha : isStar a = false) (he : PE X a (tE X.K W (mf a))) :
    PE X (.Call (.Name f p) [.Call (.Name y p2) [a] [] pos2] [] pos) (tE X.K W fun env => do
      let x ← mf a env
      liftP (biSortedSet x)) := by
  subst hf hy
  have hin : PE X (.Call (.Name "set" p2) [a] [] pos2) _ := pe_callTy (cr_setOfT C.calm (by have := C.units; omega)) (gl_ok C hgy) (C.glob.free _ hyf) boot_set (pa_cons he pa_nil (star_cons ha)) (by decide) (by decide) (star_cons ha) rfl
  refine PE_imp (pe_callB (callR_or (cr_sortedT C.calm) (cr_sortedTF C.calm)) (gl_ok C hg) (C.glob.free _ hff) boot_sorted (pa_cons hin pa_nil rfl) (by decide) (by decide) rfl rfl) fun σ H Q h => ?_
  refine tM_imp (tM_bind (rel := RV X.K) h) fun x H1 ⟨g, env, v, st, S, R, r, q⟩ => ?_
  obtain ⟨z, e, q⟩ := liftP_ok q
  exact sortedSet_reads S r e (.of q)
end
end IP

set_option maxHeartbeats 4000000
/-! IP18: len. -/
namespace IP
open PySem PySem.Spec PyProof.Rows L2
section
variable {G : Glob} {call : Key2 → List Val → M Val} {k : Nat} {N : List Str} {sc : Scope} {W : WX} {X : Cx}
variable {pins : List (Addr × Obj)} {s : Shared} {σ : L2.St} {H : Hp} {Q : VK} {us : List Value} {vs : List V} {ws : List Val} {g : GS} {st : Store}
def intBack (r : Res Val) : Res Val := match r with
  | .ok (.d (.int n)) st' => if 0 ≤ n ∧ n < 2 ^ 63 then .ok (.d (.int n)) st' else .bad
  | .ok _ _ => .bad
  | .exc x w st' => .exc x w st'
  | .bad => .bad
theorem intBack_out {E : XK} {r : Res Val} (h : Out X.K (RV X.K) E g H (intBack r) Q) : Out X.K (RV X.K) E g H r fun v H' => ∃ n, v = .int n ∧ 0 ≤ n ∧ n < 2 ^ 63 ∧ Q (.int n) H' := by
  unfold intBack at h
  revert h
  cases r with
  | bad => exact fun h => h
  | exc c xs st' => exact fun h => h
  | ok v st' =>
    cases v with
    | d dv =>
      cases dv with
      | int n =>
        intro h
        dsimp only at h
        by_cases q : 0 ≤ n ∧ n < 2 ^ 63
        · rw [if_pos q] at h
          intro y g' H' S T r
          cases (show y = .int n from RD.int_inv r)
          exact ⟨n, rfl, q.1, q.2, h _ _ _ S T r⟩
        · rw [if_neg q] at h
          exact h.elim
      | _ => exact fun h => h.elim
    | _ => exact fun h => h.elim
theorem run_len (C : CtxE G call k N sc W X) {x : V} {u : Value} {v : Val} (I : Inv X pins σ H s) (rx : RelV x u) (r : RV X.K g x v) (S : StoreR X.K g st H) (h : Out X.K (RV X.K) (WE W σ) g H (lenM call v st) Q) :
    wpAny (model X.prog X.w) X.A (PySem.call (.builtin "len") [u]) (EP X pins σ Q) X.xe s := by
  unfold lenM at h
  cases e : insOf v st with
  | none =>
    rw [e] at h
    obtain ⟨y, e2, q⟩ := liftP_ok h
    exact cr_len' pins s σ H [x] [u] Q I (.cons rx .nil) ⟨g, st, [v], y, S, .cons r .nil, e2, .of q⟩
  | some cn =>
    obtain ⟨c, ns⟩ := cn
    rw [e] at h
    have h : Out X.K (RV X.K) (WE W σ) g H (intBack (call (c, some "__len__") [v] st)) Q := h
    have h := intBack_out h
    obtain ⟨d, N', hf, hl⟩ := C.len _ _ _ (call_bad h)
    obtain ⟨a, dx, fs, rfl, hH, hn⟩ := ins_of S r e
    obtain rfl : u = Value.ref a := rx
    obtain ⟨h1, h2⟩ := C.glob.meth c _ _ hf
    obtain ⟨m, F0⟩ := I.fr
    obtain ⟨mA, O, _⟩ := ins_get I.hok hH
    obtain ⟨od, J, _⟩ := O.look
    obtain ⟨fd, F, b, _⟩ := C.fns _ d N' hf
    have hq := C.spK hf (vs := [.ref a]) (.cons r .nil) S h
    have hl' : (([Value.ref a] : List Value) ++ []).length = (parsOf d).length := by
      rw [← hl]
      rfl
    refine PySem.W.len_K F0 I.ok.mod.kin J h2.at_ h2.fn ?_
    refine wpAny_call (codeAny_mono (F.run X.A.in1 X.stack s H ⟨[.ref a], []⟩ [.ref a] [.ref a] _ (WE W σ) C.room.in1 I.env0.in1 (b.binds s [.ref a] I.kIn hl') (.cons rfl .nil) hq) fun r s' hq => ?_)
    cases r with
    | error e => exact passAt C.tk σ pins H s e s' I hq
    | ok fl =>
      cases fl with
      | ret u =>
        obtain ⟨y, H', I', ry, n, rfl, q1, q2, q3⟩ := I.after hq
        obtain ⟨t, rfl⟩ := (show ∃ t, u = Value.int n t from ry)
        exact ⟨⟨q1, q2⟩, .int n, H', I'.tok _, ⟨_, rfl⟩, q3⟩
      | next => exact False.elim hq
      | brk => exact False.elim hq
      | cont => exact False.elim hq
theorem s_len (C : CtxE G call k N sc W X) {mf : Expr → IP.Env → M Val} {x : Str} {a : Expr} {p pos : Pos} (hx : x = "len") (hf : x ∈ G.free) (hg : isGl sc x = true) (ha : isStar a = false) (he : PE X a (tE X.K W (mf a))) :
    PE X (.Call (.Name x p) [a] [] pos) (tE X.K W fun env => do
      let x ← mf a env
      lenM call x) := by
  subst hx
  refine ⟨fun pins s σ H Q I h => ?_⟩
  refine wpAny_Call_Name_kw (ld_blt I (gl_ok C hg) (C.glob.free _ hf) boot_len ?_ (by decide) (by decide))
  have h2 : tCons (tE X.K W (mf a)) tNil σ H fun vs H1 => ∃ x g env v st, vs = [x] ∧ StoreR X.K g st H1 ∧ EnvR X.K g env σ ∧ RV X.K g x v ∧ Out X.K (RV X.K) (WE W σ) g H1 (lenM call v st) Q :=
    tM_imp (tM_bind (rel := RV X.K) h) fun x H1 ⟨g, env, v, st, q⟩ => ⟨x, g, env, v, st, rfl, q⟩
  refine PyProof.Rows.callWith_builtin1 (thn ((pa_cons he pa_nil (star_cons ha)).run pos pins s σ H _ I h2) fun us s1 ⟨vs, H1, I1, r1, q1⟩ => ?_) (star_cons ha) rfl
  obtain ⟨x, g, env, v, st, rfl, S, R, r, q⟩ := q1
  obtain ⟨u, rfl, ru⟩ := r1.one
  exact run_len C I1 ru r S q
end
end IP

set_option maxHeartbeats 4000000
/-! IPZ: zip of lists and tuples, two or three of them. -/
namespace IP
open PySem PySem.Spec PyProof.Rows L2
def ItAt (h : Heap) (b : Bool) (it l : Addr) (k : Nat) : Prop := match b with
  | true => h.IsListIter it l k
  | false => h.IsTupleIter it l k
def SqAt (h : Heap) (b : Bool) (l : Addr) (vs : Array Value) : Prop := match b with
  | true => h.IsList l vs
  | false => h.IsTuple l vs
abbrev TupN (h : Heap) (T : Addr) (vs : Array Value) : Prop := h.get? T = some { cls := .type "tuple", data := .seq vs }
def itN (b : Bool) : String := if b then "list_iterator" else "tuple_iterator"
theorem ItAt.to {h h' : Heap} {b : Bool} {it l : Addr} {k : Nat} (x : ItAt h b it l k) (q : ∀ o, h.get? it = some o → h'.get? it = some o) : ItAt h' b it l k := by
  cases b with
  | true => exact Heap.IsListIter.at (show h.IsListIter it l k from x) q
  | false => exact Heap.IsTupleIter.at (show h.IsTupleIter it l k from x) q
theorem SqAt.to {h h' : Heap} {b : Bool} {l : Addr} {vs : Array Value} (x : SqAt h b l vs) (q : ∀ o, h.get? l = some o → h'.get? l = some o) : SqAt h' b l vs := by
  cases b with
  | true => exact Heap.IsList.at (show h.IsList l vs from x) q
  | false =>
    obtain ⟨o, e, r⟩ := (show h.IsTuple l vs from x)
    exact ⟨o, q o e, r⟩
section
variable {prog : Program} {w : World} {A : Around} {E : Value → Shared → Prop} {s : Shared}
theorem nextI_item {b : Bool} {it l : Addr} {i : Nat} {vs : Array Value} {x : Value} {Q : Value → Shared → Prop} (hit : ItAt s.heap b it l i) (hl : SqAt s.heap b l vs) (hx : vs[i]? = some x)
    (hQ : ∀ h', ItAt h' b it l (i + 1) → Heap.SameBut it s.heap h' → Q x { s with heap := h' }) : wpAny (model prog w) A (Builtin.SmallTypes.nextOf (.ref it)) Q E s := by
  cases b with
  | true => exact wpAny_nextOf_list_item hit hl hx hQ
  | false => exact RZ.nextOf_tuple_item hit hl hx hQ
theorem nextI_end {b : Bool} {it l : Addr} {i : Nat} {vs : Array Value} {Q : Value → Shared → Prop} (hh : A.handled = none) (hit : ItAt s.heap b it l i) (hl : SqAt s.heap b l vs) (hx : vs[i]? = none)
    (hE : ∀ h' e, Heap.ExtBut it s.heap h' → (∃ o, h'.get? e = some o ∧ o.cls = .type "StopIteration") → E (.ref e) { s with heap := h' }) : wpAny (model prog w) A (Builtin.SmallTypes.nextOf (.ref it)) Q E s := by
  cases b with
  | true => exact wpAny_nextOf_list_end hh hit hl hx hE
  | false => exact RZ.nextOf_tuple_end hh hit hl hx hE
theorem pyIterI {b : Bool} {l : Addr} {vs : Array Value} {Q : Value → Shared → Prop} (hl : SqAt s.heap b l vs) (hQ : Q (.ref s.heap.objs.size) { s with heap := s.heap.push { cls := .type (itN b), data := .fields #[.ref l, .int 0 0] } }) : wpAny (model prog w) A (pyIter (.ref l)) Q E s := by
  cases b with
  | true => exact wpAny_pyIter_list hl hQ
  | false => exact wpAny_pyIter_tuple hl hQ
theorem updateSeqN {T : Addr} {vs : Array Value} {x : Value} {k : Nat} {Q : Unit → Shared → Prop} (hT : TupN s.heap T vs)
    (h : ∀ h', h'.get? T = some { cls := .type "tuple", data := .seq (vs.setIfInBounds k x) } → Heap.SameBut T s.heap h' → Q () { s with heap := h' }) (hv : vs.size ≤ 9 := by simp) :
    wpAny (model prog w) A (updateSeq T (·.setIfInBounds k x)) Q E s := by
  refine wpAny_updateSeq (hz := by rw [sizeLine_eq]; omega) (_hz' := by simp only [Array.size_setIfInBounds]; rw [sizeLine_eq]; omega) hT rfl (h _ ?_ (Heap.SameBut.update ..))
  rw [Heap.get?_update_self _ hT rfl]
  simp [Obj.mapSeq]
theorem zip2_item {p : Nat} {l0 l1 : Nat} {b0 b1 : Bool} {xs0 xs1 : Array Value} {a0 a1 : Value} {k : Nat} (hp0 : l0 < p) (hp1 : l1 < p) (hz : IsZip s.heap (p + 4) (p + 2) (p + 3) .none) (hTI : TupN s.heap (p + 2) #[.ref p, .ref (p + 1)]) (hTO : TupN s.heap (p + 3) #[a0, a1]) (i0 : ItAt s.heap b0 p l0 k) (i1 : ItAt s.heap b1 (p + 1) l1 k) (h0 : SqAt s.heap b0 l0 xs0) (h1 : SqAt s.heap b1 l1 xs1) {x0 x1 : Value} (e0 : xs0[k]? = some x0) (e1 : xs1[k]? = some x1) {Q : Value → Shared → Prop}
    (hQ : ∀ h', IsZip h' (p + 4) (p + 2) (p + 3) (rawInt s.heap.objs.size) → TupN h' (p + 3) #[x0, x1] → ItAt h' b0 p l0 (k + 1) → ItAt h' b1 (p + 1) l1 (k + 1) → TupN h' s.heap.objs.size #[x0, x1] → h'.objs.size = s.heap.objs.size + 1 → (∀ (c : Nat) o, c ≠ (p + 4) → c ≠ (p + 3) → c ≠ p → c ≠ (p + 1) → s.heap.get? c = some o → h'.get? c = some o) → Q (.ref s.heap.objs.size) { s with heap := h' }) :
    wpAny (model prog w) A (Builtin.«zip.__next__» ⟨[.ref (p + 4)], []⟩) (fun fin s' => ∃ v, fin = .done (.ret v) ∧ Q v s') E s := by
  show wpAny _ _ (PySem.field (.ref (p + 4)) 2 >>= _) _ _ _
  refine wpAny_bind (wpAny_field hz rfl (x := .bool false) rfl ?_)
  show wpAny _ _ (PySem.field (.ref (p + 4)) 3 >>= _) _ _ _
  refine wpAny_bind (wpAny_field hz rfl (x := .ref (p + 2)) rfl ?_)
  refine wpAny_bind (wpAny_seqItems hTI rfl ?_)
  show wpAny _ _ (Builtin.SmallTypes.ownedTupleIsFree (.ref (p + 4)) >>= _) _ _ _
  refine wpAny_bind ?_
  unfold Builtin.SmallTypes.ownedTupleIsFree
  refine wpAny_bind (wpAny_field hz rfl (x := .none) rfl (wpAny_pure ?_))
  simp only [if_true]
  refine wpAny_bind (wpAny_rule ?_)
  refine wpAny_bind (wpAny_field hz rfl (x := .ref (p + 3)) rfl ?_)
  refine wpAny_bind (wpAny_setField_rec hz (by simp) fun H0 z0 s0 => ?_)
  replace z0 : IsZip H0 (p + 4) (p + 2) (p + 3) .ellipsis := z0
  have c0 : ∀ (c : Nat) o, c ≠ (p + 4) → s.heap.get? c = some o → H0.get? c = some o := fun c o c1 e => (s0.2 c c1).trans e
  refine wpAny_bind ?_
  simp only [List.zipIdx_cons, List.zipIdx_nil, List.forIn_cons, List.forIn_nil]
  have T0 : TupN H0 (p + 3) #[a0, a1] := c0 _ _ (by omega) hTO
  have I0_0 := i0.to fun o e => c0 _ o (by omega) e
  have I0_1 := i1.to fun o e => c0 _ o (by omega) e
  have S0_0 := h0.to fun o e => c0 _ o (by omega) e
  have S0_1 := h1.to fun o e => c0 _ o (by omega) e
  refine wpAny_bind (wpAny_bind (wpAny_onRaise ?_))
  show wpAny _ _ (Builtin.SmallTypes.nextOf (.ref p) >>= _) _ _ _
  refine wpAny_bind (nextI_item I0_0 S0_0 e0 fun H1 I1_0 s1 => wpAny_pure ?_)
  have c1 : ∀ (c : Nat) o, c ≠ p → H0.get? c = some o → H1.get? c = some o := fun c o c1 e => (s1.2 c c1).trans e
  have z1 : IsZip H1 (p + 4) (p + 2) (p + 3) .ellipsis := c1 _ _ (by omega) z0
  have T1 : TupN H1 (p + 3) #[a0, a1] := c1 _ _ (by omega) T0
  have I1_1 := I0_1.to fun o e => c1 _ o (by omega) e
  have S1_0 := S0_0.to fun o e => c1 _ o (by omega) e
  have S1_1 := S0_1.to fun o e => c1 _ o (by omega) e
  refine wpAny_bind (wpAny_seqItems T1 rfl ?_)
  refine wpAny_bind (updateSeqN T1 fun H2 T2 s2 => ?_)
  replace T2 : TupN H2 (p + 3) #[x0, a1] := T2
  have c2 : ∀ (c : Nat) o, c ≠ (p + 3) → H1.get? c = some o → H2.get? c = some o := fun c o c1 e => (s2.2 c c1).trans e
  have z2 : IsZip H2 (p + 4) (p + 2) (p + 3) .ellipsis := c2 _ _ (by omega) z1
  have I2_0 := I1_0.to fun o e => c2 _ o (by omega) e
  have I2_1 := I1_1.to fun o e => c2 _ o (by omega) e
  have S2_0 := S1_0.to fun o e => c2 _ o (by omega) e
  have S2_1 := S1_1.to fun o e => c2 _ o (by omega) e
  refine wpAny_bind (wpAny_letGo (wpAny_pure ?_))
  refine wpAny_bind (wpAny_bind (wpAny_onRaise ?_))
  show wpAny _ _ (Builtin.SmallTypes.nextOf (.ref (p + 1)) >>= _) _ _ _
  refine wpAny_bind (nextI_item I2_1 S2_1 e1 fun H3 I3_1 s3 => wpAny_pure ?_)
  have c3 : ∀ (c : Nat) o, c ≠ (p + 1) → H2.get? c = some o → H3.get? c = some o := fun c o c1 e => (s3.2 c c1).trans e
  have z3 : IsZip H3 (p + 4) (p + 2) (p + 3) .ellipsis := c3 _ _ (by omega) z2
  have T3 : TupN H3 (p + 3) #[x0, a1] := c3 _ _ (by omega) T2
  have I3_0 := I2_0.to fun o e => c3 _ o (by omega) e
  have S3_0 := S2_0.to fun o e => c3 _ o (by omega) e
  have S3_1 := S2_1.to fun o e => c3 _ o (by omega) e
  refine wpAny_bind (wpAny_seqItems T3 rfl ?_)
  refine wpAny_bind (updateSeqN T3 fun H4 T4 s4 => ?_)
  replace T4 : TupN H4 (p + 3) #[x0, x1] := T4
  have c4 : ∀ (c : Nat) o, c ≠ (p + 3) → H3.get? c = some o → H4.get? c = some o := fun c o c1 e => (s4.2 c c1).trans e
  have z4 : IsZip H4 (p + 4) (p + 2) (p + 3) .ellipsis := c4 _ _ (by omega) z3
  have I4_0 := I3_0.to fun o e => c4 _ o (by omega) e
  have I4_1 := I3_1.to fun o e => c4 _ o (by omega) e
  have S4_0 := S3_0.to fun o e => c4 _ o (by omega) e
  have S4_1 := S3_1.to fun o e => c4 _ o (by omega) e
  refine wpAny_bind (wpAny_letGo (wpAny_pure (wpAny_pure ?_)))
  refine wpAny_bind (wpAny_seqItems T4 rfl ?_)
  refine wpAny_bind (wpAny_newTuple ?_)
  have hsz : H4.objs.size = s.heap.objs.size := by rw [s4.1, s3.1, s2.1, s1.1, s0.1]
  have hk : ∀ (c : Nat) o, c ≠ (p + 4) → c ≠ (p + 3) → c ≠ p → c ≠ (p + 1) → s.heap.get? c = some o → H4.get? c = some o := fun c o q0 q1 r0 r1 e => c4 _ _ q1 (c3 _ _ r1 (c2 _ _ q1 (c1 _ _ r0 (c0 _ _ q0 e))))
  have zlt : (p + 4) < H4.objs.size := Heap.lt_size z4
  show wpAny _ _ (Builtin.SmallTypes.ownedTupleHandOut (.ref (p + 4)) (.ref H4.objs.size) >>= _) _ _ _
  refine wpAny_bind ?_
  unfold Builtin.SmallTypes.ownedTupleHandOut
  have za : IsZip (H4.push { cls := .type "tuple", data := .seq #[x0, x1] }) (p + 4) (p + 2) (p + 3) .ellipsis := Heap.get?_push_of_some _ z4
  refine wpAny_bind (wpAny_setField_rec za (by simp) fun Ha zb sa => ?_)
  replace zb : IsZip Ha (p + 4) (p + 2) (p + 3) (rawInt H4.objs.size) := zb
  refine wpAny_setField_rec zb (by simp) fun Hb zc sb => ?_
  replace zc : IsZip Hb (p + 4) (p + 2) (p + 3) (rawInt H4.objs.size) := zc
  have up : ∀ (c : Nat) o, c ≠ (p + 4) → H4.get? c = some o → Hb.get? c = some o := fun c o c1 e => (sb.2 c c1).trans ((sa.2 c c1).trans (Heap.get?_push_of_some _ e))
  have hT : TupN Hb H4.objs.size #[x0, x1] := (sb.2 _ (Nat.ne_of_gt zlt)).trans ((sa.2 _ (Nat.ne_of_gt zlt)).trans (Heap.get?_push_size _ rfl))
  have hsz2 : Hb.objs.size = H4.objs.size + 1 := by rw [sb.1, sa.1, Heap.size_push]
  rw [hsz] at zc hT hsz2
  refine wpAny_pure ⟨_, rfl, ?_⟩
  show Q (.ref H4.objs.size) _
  rw [hsz]
  exact hQ Hb zc (up _ _ (by omega) T4) (I4_0.to fun o e => up _ o (by omega) e) (I4_1.to fun o e => up _ o (by omega) e) hT hsz2 fun c o q0 q1 r0 r1 e => up c o q0 (hk c o q0 q1 r0 r1 e)
theorem zip2_end (hh : A.handled = none) {p : Nat} {l0 l1 : Nat} {b0 b1 : Bool} {xs0 xs1 : Array Value} {a0 a1 : Value} {k : Nat} (hp0 : l0 < p) (hp1 : l1 < p) (hz : IsZip s.heap (p + 4) (p + 2) (p + 3) .none) (hTI : TupN s.heap (p + 2) #[.ref p, .ref (p + 1)]) (hTO : TupN s.heap (p + 3) #[a0, a1]) (i0 : ItAt s.heap b0 p l0 k) (i1 : ItAt s.heap b1 (p + 1) l1 k) (h0 : SqAt s.heap b0 l0 xs0) (h1 : SqAt s.heap b1 l1 xs1) (hend : xs0[k]? = none ∨ xs1[k]? = none) {Q : Fin → Shared → Prop}
    (hE : ∀ h' e, (∀ (c : Nat) o, c ≠ (p + 4) → c ≠ (p + 3) → c ≠ p → c ≠ (p + 1) → s.heap.get? c = some o → h'.get? c = some o) → (∃ o, h'.get? e = some o ∧ o.cls = .type "StopIteration") → E (.ref e) { s with heap := h' }) :
    wpAny (model prog w) A (Builtin.«zip.__next__» ⟨[.ref (p + 4)], []⟩) Q E s := by
  show wpAny _ _ (PySem.field (.ref (p + 4)) 2 >>= _) _ _ _
  refine wpAny_bind (wpAny_field hz rfl (x := .bool false) rfl ?_)
  show wpAny _ _ (PySem.field (.ref (p + 4)) 3 >>= _) _ _ _
  refine wpAny_bind (wpAny_field hz rfl (x := .ref (p + 2)) rfl ?_)
  refine wpAny_bind (wpAny_seqItems hTI rfl ?_)
  show wpAny _ _ (Builtin.SmallTypes.ownedTupleIsFree (.ref (p + 4)) >>= _) _ _ _
  refine wpAny_bind ?_
  unfold Builtin.SmallTypes.ownedTupleIsFree
  refine wpAny_bind (wpAny_field hz rfl (x := .none) rfl (wpAny_pure ?_))
  simp only [if_true]
  refine wpAny_bind (wpAny_rule ?_)
  refine wpAny_bind (wpAny_field hz rfl (x := .ref (p + 3)) rfl ?_)
  refine wpAny_bind (wpAny_setField_rec hz (by simp) fun H0 z0 s0 => ?_)
  replace z0 : IsZip H0 (p + 4) (p + 2) (p + 3) .ellipsis := z0
  have c0 : ∀ (c : Nat) o, c ≠ (p + 4) → s.heap.get? c = some o → H0.get? c = some o := fun c o c1 e => (s0.2 c c1).trans e
  refine wpAny_bind ?_
  simp only [List.zipIdx_cons, List.zipIdx_nil, List.forIn_cons, List.forIn_nil]
  have T0 : TupN H0 (p + 3) #[a0, a1] := c0 _ _ (by omega) hTO
  have I0_0 := i0.to fun o e => c0 _ o (by omega) e
  have I0_1 := i1.to fun o e => c0 _ o (by omega) e
  have S0_0 := h0.to fun o e => c0 _ o (by omega) e
  have S0_1 := h1.to fun o e => c0 _ o (by omega) e
  refine wpAny_bind (wpAny_bind (wpAny_onRaise ?_))
  show wpAny _ _ (Builtin.SmallTypes.nextOf (.ref p) >>= _) _ _ _
  cases e0 : xs0[k]? with
  | none =>
    refine wpAny_bind (nextI_end hh I0_0 S0_0 e0 fun Ha x sx hx => ?_)
    obtain ⟨oe, hoe, hce⟩ := hx
    have zx : IsZip Ha (p + 4) (p + 2) (p + 3) .ellipsis := sx (p + 4) _ (show (p + 4) ≠ p by omega) z0
    have hez : x ≠ (p + 4) := fun q => by subst q; rw [zx] at hoe; cases hoe; simp at hce
    refine wpAny_setField_rec zx (by simp) fun Hb _ sy => hE Hb x (fun c o q0 q1 r0 r1 e => (sy.2 c q0).trans (sx _ _ r0 (c0 _ _ q0 e))) ⟨oe, (sy.2 _ hez).trans hoe, hce⟩
  | some x0 =>
    refine wpAny_bind (nextI_item I0_0 S0_0 e0 fun H1 I1_0 s1 => wpAny_pure ?_)
    have c1 : ∀ (c : Nat) o, c ≠ p → H0.get? c = some o → H1.get? c = some o := fun c o c1 e => (s1.2 c c1).trans e
    have z1 : IsZip H1 (p + 4) (p + 2) (p + 3) .ellipsis := c1 _ _ (by omega) z0
    have T1 : TupN H1 (p + 3) #[a0, a1] := c1 _ _ (by omega) T0
    have I1_1 := I0_1.to fun o e => c1 _ o (by omega) e
    have S1_0 := S0_0.to fun o e => c1 _ o (by omega) e
    have S1_1 := S0_1.to fun o e => c1 _ o (by omega) e
    refine wpAny_bind (wpAny_seqItems T1 rfl ?_)
    refine wpAny_bind (updateSeqN T1 fun H2 T2 s2 => ?_)
    replace T2 : TupN H2 (p + 3) #[x0, a1] := T2
    have c2 : ∀ (c : Nat) o, c ≠ (p + 3) → H1.get? c = some o → H2.get? c = some o := fun c o c1 e => (s2.2 c c1).trans e
    have z2 : IsZip H2 (p + 4) (p + 2) (p + 3) .ellipsis := c2 _ _ (by omega) z1
    have I2_0 := I1_0.to fun o e => c2 _ o (by omega) e
    have I2_1 := I1_1.to fun o e => c2 _ o (by omega) e
    have S2_0 := S1_0.to fun o e => c2 _ o (by omega) e
    have S2_1 := S1_1.to fun o e => c2 _ o (by omega) e
    refine wpAny_bind (wpAny_letGo (wpAny_pure ?_))
    refine wpAny_bind (wpAny_bind (wpAny_onRaise ?_))
    show wpAny _ _ (Builtin.SmallTypes.nextOf (.ref (p + 1)) >>= _) _ _ _
    cases e1 : xs1[k]? with
    | none =>
      refine wpAny_bind (nextI_end hh I2_1 S2_1 e1 fun Ha x sx hx => ?_)
      obtain ⟨oe, hoe, hce⟩ := hx
      have zx : IsZip Ha (p + 4) (p + 2) (p + 3) .ellipsis := sx (p + 4) _ (show (p + 4) ≠ (p + 1) by omega) z2
      have hez : x ≠ (p + 4) := fun q => by subst q; rw [zx] at hoe; cases hoe; simp at hce
      refine wpAny_setField_rec zx (by simp) fun Hb _ sy => hE Hb x (fun c o q0 q1 r0 r1 e => (sy.2 c q0).trans (sx _ _ r1 (c2 _ _ q1 (c1 _ _ r0 (c0 _ _ q0 e))))) ⟨oe, (sy.2 _ hez).trans hoe, hce⟩
    | some x =>
      exfalso
      simp_all
theorem zip3_item {p : Nat} {l0 l1 l2 : Nat} {b0 b1 b2 : Bool} {xs0 xs1 xs2 : Array Value} {a0 a1 a2 : Value} {k : Nat} (hp0 : l0 < p) (hp1 : l1 < p) (hp2 : l2 < p) (hz : IsZip s.heap (p + 5) (p + 3) (p + 4) .none) (hTI : TupN s.heap (p + 3) #[.ref p, .ref (p + 1), .ref (p + 2)]) (hTO : TupN s.heap (p + 4) #[a0, a1, a2]) (i0 : ItAt s.heap b0 p l0 k) (i1 : ItAt s.heap b1 (p + 1) l1 k) (i2 : ItAt s.heap b2 (p + 2) l2 k) (h0 : SqAt s.heap b0 l0 xs0) (h1 : SqAt s.heap b1 l1 xs1) (h2 : SqAt s.heap b2 l2 xs2) {x0 x1 x2 : Value} (e0 : xs0[k]? = some x0) (e1 : xs1[k]? = some x1) (e2 : xs2[k]? = some x2) {Q : Value → Shared → Prop}
    (hQ : ∀ h', IsZip h' (p + 5) (p + 3) (p + 4) (rawInt s.heap.objs.size) → TupN h' (p + 4) #[x0, x1, x2] → ItAt h' b0 p l0 (k + 1) → ItAt h' b1 (p + 1) l1 (k + 1) → ItAt h' b2 (p + 2) l2 (k + 1) → TupN h' s.heap.objs.size #[x0, x1, x2] → h'.objs.size = s.heap.objs.size + 1 → (∀ (c : Nat) o, c ≠ (p + 5) → c ≠ (p + 4) → c ≠ p → c ≠ (p + 1) → c ≠ (p + 2) → s.heap.get? c = some o → h'.get? c = some o) → Q (.ref s.heap.objs.size) { s with heap := h' }) :
    wpAny (model prog w) A (Builtin.«zip.__next__» ⟨[.ref (p + 5)], []⟩) (fun fin s' => ∃ v, fin = .done (.ret v) ∧ Q v s') E s := by
  show wpAny _ _ (PySem.field (.ref (p + 5)) 2 >>= _) _ _ _
  refine wpAny_bind (wpAny_field hz rfl (x := .bool false) rfl ?_)
  show wpAny _ _ (PySem.field (.ref (p + 5)) 3 >>= _) _ _ _
  refine wpAny_bind (wpAny_field hz rfl (x := .ref (p + 3)) rfl ?_)
  refine wpAny_bind (wpAny_seqItems hTI rfl ?_)
  show wpAny _ _ (Builtin.SmallTypes.ownedTupleIsFree (.ref (p + 5)) >>= _) _ _ _
  refine wpAny_bind ?_
  unfold Builtin.SmallTypes.ownedTupleIsFree
  refine wpAny_bind (wpAny_field hz rfl (x := .none) rfl (wpAny_pure ?_))
  simp only [if_true]
  refine wpAny_bind (wpAny_rule ?_)
  refine wpAny_bind (wpAny_field hz rfl (x := .ref (p + 4)) rfl ?_)
  refine wpAny_bind (wpAny_setField_rec hz (by simp) fun H0 z0 s0 => ?_)
  replace z0 : IsZip H0 (p + 5) (p + 3) (p + 4) .ellipsis := z0
  have c0 : ∀ (c : Nat) o, c ≠ (p + 5) → s.heap.get? c = some o → H0.get? c = some o := fun c o c1 e => (s0.2 c c1).trans e
  refine wpAny_bind ?_
  simp only [List.zipIdx_cons, List.zipIdx_nil, List.forIn_cons, List.forIn_nil]
  have T0 : TupN H0 (p + 4) #[a0, a1, a2] := c0 _ _ (by omega) hTO
  have I0_0 := i0.to fun o e => c0 _ o (by omega) e
  have I0_1 := i1.to fun o e => c0 _ o (by omega) e
  have I0_2 := i2.to fun o e => c0 _ o (by omega) e
  have S0_0 := h0.to fun o e => c0 _ o (by omega) e
  have S0_1 := h1.to fun o e => c0 _ o (by omega) e
  have S0_2 := h2.to fun o e => c0 _ o (by omega) e
  refine wpAny_bind (wpAny_bind (wpAny_onRaise ?_))
  show wpAny _ _ (Builtin.SmallTypes.nextOf (.ref p) >>= _) _ _ _
  refine wpAny_bind (nextI_item I0_0 S0_0 e0 fun H1 I1_0 s1 => wpAny_pure ?_)
  have c1 : ∀ (c : Nat) o, c ≠ p → H0.get? c = some o → H1.get? c = some o := fun c o c1 e => (s1.2 c c1).trans e
  have z1 : IsZip H1 (p + 5) (p + 3) (p + 4) .ellipsis := c1 _ _ (by omega) z0
  have T1 : TupN H1 (p + 4) #[a0, a1, a2] := c1 _ _ (by omega) T0
  have I1_1 := I0_1.to fun o e => c1 _ o (by omega) e
  have I1_2 := I0_2.to fun o e => c1 _ o (by omega) e
  have S1_0 := S0_0.to fun o e => c1 _ o (by omega) e
  have S1_1 := S0_1.to fun o e => c1 _ o (by omega) e
  have S1_2 := S0_2.to fun o e => c1 _ o (by omega) e
  refine wpAny_bind (wpAny_seqItems T1 rfl ?_)
  refine wpAny_bind (updateSeqN T1 fun H2 T2 s2 => ?_)
  replace T2 : TupN H2 (p + 4) #[x0, a1, a2] := T2
  have c2 : ∀ (c : Nat) o, c ≠ (p + 4) → H1.get? c = some o → H2.get? c = some o := fun c o c1 e => (s2.2 c c1).trans e
  have z2 : IsZip H2 (p + 5) (p + 3) (p + 4) .ellipsis := c2 _ _ (by omega) z1
  have I2_0 := I1_0.to fun o e => c2 _ o (by omega) e
  have I2_1 := I1_1.to fun o e => c2 _ o (by omega) e
  have I2_2 := I1_2.to fun o e => c2 _ o (by omega) e
  have S2_0 := S1_0.to fun o e => c2 _ o (by omega) e
  have S2_1 := S1_1.to fun o e => c2 _ o (by omega) e
  have S2_2 := S1_2.to fun o e => c2 _ o (by omega) e
  refine wpAny_bind (wpAny_letGo (wpAny_pure ?_))
  refine wpAny_bind (wpAny_bind (wpAny_onRaise ?_))
  show wpAny _ _ (Builtin.SmallTypes.nextOf (.ref (p + 1)) >>= _) _ _ _
  refine wpAny_bind (nextI_item I2_1 S2_1 e1 fun H3 I3_1 s3 => wpAny_pure ?_)
  have c3 : ∀ (c : Nat) o, c ≠ (p + 1) → H2.get? c = some o → H3.get? c = some o := fun c o c1 e => (s3.2 c c1).trans e
  have z3 : IsZip H3 (p + 5) (p + 3) (p + 4) .ellipsis := c3 _ _ (by omega) z2
  have T3 : TupN H3 (p + 4) #[x0, a1, a2] := c3 _ _ (by omega) T2
  have I3_0 := I2_0.to fun o e => c3 _ o (by omega) e
  have I3_2 := I2_2.to fun o e => c3 _ o (by omega) e
  have S3_0 := S2_0.to fun o e => c3 _ o (by omega) e
  have S3_1 := S2_1.to fun o e => c3 _ o (by omega) e
  have S3_2 := S2_2.to fun o e => c3 _ o (by omega) e
  refine wpAny_bind (wpAny_seqItems T3 rfl ?_)
  refine wpAny_bind (updateSeqN T3 fun H4 T4 s4 => ?_)
  replace T4 : TupN H4 (p + 4) #[x0, x1, a2] := T4
  have c4 : ∀ (c : Nat) o, c ≠ (p + 4) → H3.get? c = some o → H4.get? c = some o := fun c o c1 e => (s4.2 c c1).trans e
  have z4 : IsZip H4 (p + 5) (p + 3) (p + 4) .ellipsis := c4 _ _ (by omega) z3
  have I4_0 := I3_0.to fun o e => c4 _ o (by omega) e
  have I4_1 := I3_1.to fun o e => c4 _ o (by omega) e
  have I4_2 := I3_2.to fun o e => c4 _ o (by omega) e
  have S4_0 := S3_0.to fun o e => c4 _ o (by omega) e
  have S4_1 := S3_1.to fun o e => c4 _ o (by omega) e
  have S4_2 := S3_2.to fun o e => c4 _ o (by omega) e
  refine wpAny_bind (wpAny_letGo (wpAny_pure ?_))
  refine wpAny_bind (wpAny_bind (wpAny_onRaise ?_))
  show wpAny _ _ (Builtin.SmallTypes.nextOf (.ref (p + 2)) >>= _) _ _ _
  refine wpAny_bind (nextI_item I4_2 S4_2 e2 fun H5 I5_2 s5 => wpAny_pure ?_)
  have c5 : ∀ (c : Nat) o, c ≠ (p + 2) → H4.get? c = some o → H5.get? c = some o := fun c o c1 e => (s5.2 c c1).trans e
  have z5 : IsZip H5 (p + 5) (p + 3) (p + 4) .ellipsis := c5 _ _ (by omega) z4
  have T5 : TupN H5 (p + 4) #[x0, x1, a2] := c5 _ _ (by omega) T4
  have I5_0 := I4_0.to fun o e => c5 _ o (by omega) e
  have I5_1 := I4_1.to fun o e => c5 _ o (by omega) e
  have S5_0 := S4_0.to fun o e => c5 _ o (by omega) e
  have S5_1 := S4_1.to fun o e => c5 _ o (by omega) e
  have S5_2 := S4_2.to fun o e => c5 _ o (by omega) e
  refine wpAny_bind (wpAny_seqItems T5 rfl ?_)
  refine wpAny_bind (updateSeqN T5 fun H6 T6 s6 => ?_)
  replace T6 : TupN H6 (p + 4) #[x0, x1, x2] := T6
  have c6 : ∀ (c : Nat) o, c ≠ (p + 4) → H5.get? c = some o → H6.get? c = some o := fun c o c1 e => (s6.2 c c1).trans e
  have z6 : IsZip H6 (p + 5) (p + 3) (p + 4) .ellipsis := c6 _ _ (by omega) z5
  have I6_0 := I5_0.to fun o e => c6 _ o (by omega) e
  have I6_1 := I5_1.to fun o e => c6 _ o (by omega) e
  have I6_2 := I5_2.to fun o e => c6 _ o (by omega) e
  have S6_0 := S5_0.to fun o e => c6 _ o (by omega) e
  have S6_1 := S5_1.to fun o e => c6 _ o (by omega) e
  have S6_2 := S5_2.to fun o e => c6 _ o (by omega) e
  refine wpAny_bind (wpAny_letGo (wpAny_pure (wpAny_pure ?_)))
  refine wpAny_bind (wpAny_seqItems T6 rfl ?_)
  refine wpAny_bind (wpAny_newTuple ?_)
  have hsz : H6.objs.size = s.heap.objs.size := by rw [s6.1, s5.1, s4.1, s3.1, s2.1, s1.1, s0.1]
  have hk : ∀ (c : Nat) o, c ≠ (p + 5) → c ≠ (p + 4) → c ≠ p → c ≠ (p + 1) → c ≠ (p + 2) → s.heap.get? c = some o → H6.get? c = some o := fun c o q0 q1 r0 r1 r2 e => c6 _ _ q1 (c5 _ _ r2 (c4 _ _ q1 (c3 _ _ r1 (c2 _ _ q1 (c1 _ _ r0 (c0 _ _ q0 e))))))
  have zlt : (p + 5) < H6.objs.size := Heap.lt_size z6
  show wpAny _ _ (Builtin.SmallTypes.ownedTupleHandOut (.ref (p + 5)) (.ref H6.objs.size) >>= _) _ _ _
  refine wpAny_bind ?_
  unfold Builtin.SmallTypes.ownedTupleHandOut
  have za : IsZip (H6.push { cls := .type "tuple", data := .seq #[x0, x1, x2] }) (p + 5) (p + 3) (p + 4) .ellipsis := Heap.get?_push_of_some _ z6
  refine wpAny_bind (wpAny_setField_rec za (by simp) fun Ha zb sa => ?_)
  replace zb : IsZip Ha (p + 5) (p + 3) (p + 4) (rawInt H6.objs.size) := zb
  refine wpAny_setField_rec zb (by simp) fun Hb zc sb => ?_
  replace zc : IsZip Hb (p + 5) (p + 3) (p + 4) (rawInt H6.objs.size) := zc
  have up : ∀ (c : Nat) o, c ≠ (p + 5) → H6.get? c = some o → Hb.get? c = some o := fun c o c1 e => (sb.2 c c1).trans ((sa.2 c c1).trans (Heap.get?_push_of_some _ e))
  have hT : TupN Hb H6.objs.size #[x0, x1, x2] := (sb.2 _ (Nat.ne_of_gt zlt)).trans ((sa.2 _ (Nat.ne_of_gt zlt)).trans (Heap.get?_push_size _ rfl))
  have hsz2 : Hb.objs.size = H6.objs.size + 1 := by rw [sb.1, sa.1, Heap.size_push]
  rw [hsz] at zc hT hsz2
  refine wpAny_pure ⟨_, rfl, ?_⟩
  show Q (.ref H6.objs.size) _
  rw [hsz]
  exact hQ Hb zc (up _ _ (by omega) T6) (I6_0.to fun o e => up _ o (by omega) e) (I6_1.to fun o e => up _ o (by omega) e) (I6_2.to fun o e => up _ o (by omega) e) hT hsz2 fun c o q0 q1 r0 r1 r2 e => up c o q0 (hk c o q0 q1 r0 r1 r2 e)
theorem zip3_end (hh : A.handled = none) {p : Nat} {l0 l1 l2 : Nat} {b0 b1 b2 : Bool} {xs0 xs1 xs2 : Array Value} {a0 a1 a2 : Value} {k : Nat} (hp0 : l0 < p) (hp1 : l1 < p) (hp2 : l2 < p) (hz : IsZip s.heap (p + 5) (p + 3) (p + 4) .none) (hTI : TupN s.heap (p + 3) #[.ref p, .ref (p + 1), .ref (p + 2)]) (hTO : TupN s.heap (p + 4) #[a0, a1, a2]) (i0 : ItAt s.heap b0 p l0 k) (i1 : ItAt s.heap b1 (p + 1) l1 k) (i2 : ItAt s.heap b2 (p + 2) l2 k) (h0 : SqAt s.heap b0 l0 xs0) (h1 : SqAt s.heap b1 l1 xs1) (h2 : SqAt s.heap b2 l2 xs2) (hend : xs0[k]? = none ∨ xs1[k]? = none ∨ xs2[k]? = none) {Q : Fin → Shared → Prop}
    (hE : ∀ h' e, (∀ (c : Nat) o, c ≠ (p + 5) → c ≠ (p + 4) → c ≠ p → c ≠ (p + 1) → c ≠ (p + 2) → s.heap.get? c = some o → h'.get? c = some o) → (∃ o, h'.get? e = some o ∧ o.cls = .type "StopIteration") → E (.ref e) { s with heap := h' }) :
    wpAny (model prog w) A (Builtin.«zip.__next__» ⟨[.ref (p + 5)], []⟩) Q E s := by
  show wpAny _ _ (PySem.field (.ref (p + 5)) 2 >>= _) _ _ _
  refine wpAny_bind (wpAny_field hz rfl (x := .bool false) rfl ?_)
  show wpAny _ _ (PySem.field (.ref (p + 5)) 3 >>= _) _ _ _
  refine wpAny_bind (wpAny_field hz rfl (x := .ref (p + 3)) rfl ?_)
  refine wpAny_bind (wpAny_seqItems hTI rfl ?_)
  show wpAny _ _ (Builtin.SmallTypes.ownedTupleIsFree (.ref (p + 5)) >>= _) _ _ _
  refine wpAny_bind ?_
  unfold Builtin.SmallTypes.ownedTupleIsFree
  refine wpAny_bind (wpAny_field hz rfl (x := .none) rfl (wpAny_pure ?_))
  simp only [if_true]
  refine wpAny_bind (wpAny_rule ?_)
  refine wpAny_bind (wpAny_field hz rfl (x := .ref (p + 4)) rfl ?_)
  refine wpAny_bind (wpAny_setField_rec hz (by simp) fun H0 z0 s0 => ?_)
  replace z0 : IsZip H0 (p + 5) (p + 3) (p + 4) .ellipsis := z0
  have c0 : ∀ (c : Nat) o, c ≠ (p + 5) → s.heap.get? c = some o → H0.get? c = some o := fun c o c1 e => (s0.2 c c1).trans e
  refine wpAny_bind ?_
  simp only [List.zipIdx_cons, List.zipIdx_nil, List.forIn_cons, List.forIn_nil]
  have T0 : TupN H0 (p + 4) #[a0, a1, a2] := c0 _ _ (by omega) hTO
  have I0_0 := i0.to fun o e => c0 _ o (by omega) e
  have I0_1 := i1.to fun o e => c0 _ o (by omega) e
  have I0_2 := i2.to fun o e => c0 _ o (by omega) e
  have S0_0 := h0.to fun o e => c0 _ o (by omega) e
  have S0_1 := h1.to fun o e => c0 _ o (by omega) e
  have S0_2 := h2.to fun o e => c0 _ o (by omega) e
  refine wpAny_bind (wpAny_bind (wpAny_onRaise ?_))
  show wpAny _ _ (Builtin.SmallTypes.nextOf (.ref p) >>= _) _ _ _
  cases e0 : xs0[k]? with
  | none =>
    refine wpAny_bind (nextI_end hh I0_0 S0_0 e0 fun Ha x sx hx => ?_)
    obtain ⟨oe, hoe, hce⟩ := hx
    have zx : IsZip Ha (p + 5) (p + 3) (p + 4) .ellipsis := sx (p + 5) _ (show (p + 5) ≠ p by omega) z0
    have hez : x ≠ (p + 5) := fun q => by subst q; rw [zx] at hoe; cases hoe; simp at hce
    refine wpAny_setField_rec zx (by simp) fun Hb _ sy => hE Hb x (fun c o q0 q1 r0 r1 r2 e => (sy.2 c q0).trans (sx _ _ r0 (c0 _ _ q0 e))) ⟨oe, (sy.2 _ hez).trans hoe, hce⟩
  | some x0 =>
    refine wpAny_bind (nextI_item I0_0 S0_0 e0 fun H1 I1_0 s1 => wpAny_pure ?_)
    have c1 : ∀ (c : Nat) o, c ≠ p → H0.get? c = some o → H1.get? c = some o := fun c o c1 e => (s1.2 c c1).trans e
    have z1 : IsZip H1 (p + 5) (p + 3) (p + 4) .ellipsis := c1 _ _ (by omega) z0
    have T1 : TupN H1 (p + 4) #[a0, a1, a2] := c1 _ _ (by omega) T0
    have I1_1 := I0_1.to fun o e => c1 _ o (by omega) e
    have I1_2 := I0_2.to fun o e => c1 _ o (by omega) e
    have S1_0 := S0_0.to fun o e => c1 _ o (by omega) e
    have S1_1 := S0_1.to fun o e => c1 _ o (by omega) e
    have S1_2 := S0_2.to fun o e => c1 _ o (by omega) e
    refine wpAny_bind (wpAny_seqItems T1 rfl ?_)
    refine wpAny_bind (updateSeqN T1 fun H2 T2 s2 => ?_)
    replace T2 : TupN H2 (p + 4) #[x0, a1, a2] := T2
    have c2 : ∀ (c : Nat) o, c ≠ (p + 4) → H1.get? c = some o → H2.get? c = some o := fun c o c1 e => (s2.2 c c1).trans e
    have z2 : IsZip H2 (p + 5) (p + 3) (p + 4) .ellipsis := c2 _ _ (by omega) z1
    have I2_0 := I1_0.to fun o e => c2 _ o (by omega) e
    have I2_1 := I1_1.to fun o e => c2 _ o (by omega) e
    have I2_2 := I1_2.to fun o e => c2 _ o (by omega) e
    have S2_0 := S1_0.to fun o e => c2 _ o (by omega) e
    have S2_1 := S1_1.to fun o e => c2 _ o (by omega) e
    have S2_2 := S1_2.to fun o e => c2 _ o (by omega) e
    refine wpAny_bind (wpAny_letGo (wpAny_pure ?_))
    refine wpAny_bind (wpAny_bind (wpAny_onRaise ?_))
    show wpAny _ _ (Builtin.SmallTypes.nextOf (.ref (p + 1)) >>= _) _ _ _
    cases e1 : xs1[k]? with
    | none =>
      refine wpAny_bind (nextI_end hh I2_1 S2_1 e1 fun Ha x sx hx => ?_)
      obtain ⟨oe, hoe, hce⟩ := hx
      have zx : IsZip Ha (p + 5) (p + 3) (p + 4) .ellipsis := sx (p + 5) _ (show (p + 5) ≠ (p + 1) by omega) z2
      have hez : x ≠ (p + 5) := fun q => by subst q; rw [zx] at hoe; cases hoe; simp at hce
      refine wpAny_setField_rec zx (by simp) fun Hb _ sy => hE Hb x (fun c o q0 q1 r0 r1 r2 e => (sy.2 c q0).trans (sx _ _ r1 (c2 _ _ q1 (c1 _ _ r0 (c0 _ _ q0 e))))) ⟨oe, (sy.2 _ hez).trans hoe, hce⟩
    | some x1 =>
      refine wpAny_bind (nextI_item I2_1 S2_1 e1 fun H3 I3_1 s3 => wpAny_pure ?_)
      have c3 : ∀ (c : Nat) o, c ≠ (p + 1) → H2.get? c = some o → H3.get? c = some o := fun c o c1 e => (s3.2 c c1).trans e
      have z3 : IsZip H3 (p + 5) (p + 3) (p + 4) .ellipsis := c3 _ _ (by omega) z2
      have T3 : TupN H3 (p + 4) #[x0, a1, a2] := c3 _ _ (by omega) T2
      have I3_0 := I2_0.to fun o e => c3 _ o (by omega) e
      have I3_2 := I2_2.to fun o e => c3 _ o (by omega) e
      have S3_0 := S2_0.to fun o e => c3 _ o (by omega) e
      have S3_1 := S2_1.to fun o e => c3 _ o (by omega) e
      have S3_2 := S2_2.to fun o e => c3 _ o (by omega) e
      refine wpAny_bind (wpAny_seqItems T3 rfl ?_)
      refine wpAny_bind (updateSeqN T3 fun H4 T4 s4 => ?_)
      replace T4 : TupN H4 (p + 4) #[x0, x1, a2] := T4
      have c4 : ∀ (c : Nat) o, c ≠ (p + 4) → H3.get? c = some o → H4.get? c = some o := fun c o c1 e => (s4.2 c c1).trans e
      have z4 : IsZip H4 (p + 5) (p + 3) (p + 4) .ellipsis := c4 _ _ (by omega) z3
      have I4_0 := I3_0.to fun o e => c4 _ o (by omega) e
      have I4_1 := I3_1.to fun o e => c4 _ o (by omega) e
      have I4_2 := I3_2.to fun o e => c4 _ o (by omega) e
      have S4_0 := S3_0.to fun o e => c4 _ o (by omega) e
      have S4_1 := S3_1.to fun o e => c4 _ o (by omega) e
      have S4_2 := S3_2.to fun o e => c4 _ o (by omega) e
      refine wpAny_bind (wpAny_letGo (wpAny_pure ?_))
      refine wpAny_bind (wpAny_bind (wpAny_onRaise ?_))
      show wpAny _ _ (Builtin.SmallTypes.nextOf (.ref (p + 2)) >>= _) _ _ _
      cases e2 : xs2[k]? with
      | none =>
        refine wpAny_bind (nextI_end hh I4_2 S4_2 e2 fun Ha x sx hx => ?_)
        obtain ⟨oe, hoe, hce⟩ := hx
        have zx : IsZip Ha (p + 5) (p + 3) (p + 4) .ellipsis := sx (p + 5) _ (show (p + 5) ≠ (p + 2) by omega) z4
        have hez : x ≠ (p + 5) := fun q => by subst q; rw [zx] at hoe; cases hoe; simp at hce
        refine wpAny_setField_rec zx (by simp) fun Hb _ sy => hE Hb x (fun c o q0 q1 r0 r1 r2 e => (sy.2 c q0).trans (sx _ _ r2 (c4 _ _ q1 (c3 _ _ r1 (c2 _ _ q1 (c1 _ _ r0 (c0 _ _ q0 e))))))) ⟨oe, (sy.2 _ hez).trans hoe, hce⟩
      | some x =>
        exfalso
        simp_all
theorem SqAt.push {h : Heap} {b : Bool} {l : Addr} {vs : Array Value} {o : Obj} (x : SqAt h b l vs) : SqAt (h.push o) b l vs := x.to fun _ e => Heap.get?_push_of_some _ e
theorem itAt_new {h : Heap} {b : Bool} {it l : Addr} (g : h.get? it = some { cls := .type (itN b), data := .fields #[.ref l, .int 0 0] }) : ItAt h b it l 0 := by
  cases b with
  | true => exact ⟨_, g, rfl, rfl⟩
  | false => exact ⟨_, g, rfl, rfl⟩
theorem next2_item {p : Nat} {l0 l1 : Nat} {b0 b1 : Bool} {xs0 xs1 : Array Value} {a0 a1 : Value} {k : Nat} (hp0 : l0 < p) (hp1 : l1 < p) (hz : IsZip s.heap (p + 4) (p + 2) (p + 3) .none) (hTI : TupN s.heap (p + 2) #[.ref p, .ref (p + 1)]) (hTO : TupN s.heap (p + 3) #[a0, a1]) (i0 : ItAt s.heap b0 p l0 k) (i1 : ItAt s.heap b1 (p + 1) l1 k) (h0 : SqAt s.heap b0 l0 xs0) (h1 : SqAt s.heap b1 l1 xs1) {x0 x1 : Value} (e0 : xs0[k]? = some x0) (e1 : xs1[k]? = some x1) {Q : Option Value → Shared → Prop}
    (hQ : ∀ h', IsZip h' (p + 4) (p + 2) (p + 3) (rawInt s.heap.objs.size) → TupN h' (p + 3) #[x0, x1] → ItAt h' b0 p l0 (k + 1) → ItAt h' b1 (p + 1) l1 (k + 1) → TupN h' s.heap.objs.size #[x0, x1] → h'.objs.size = s.heap.objs.size + 1 → (∀ (c : Nat) o, c ≠ (p + 4) → c ≠ (p + 3) → c ≠ p → c ≠ (p + 1) → s.heap.get? c = some o → h'.get? c = some o) → Q (some (.ref s.heap.objs.size)) { s with heap := h' }) :
    wpAny (model prog w) A (pyNext (.ref (p + 4))) Q E s := by
  have hT : s.TypeIs (.ref (p + 4)) "zip" := ⟨_, hz, rfl⟩
  unfold pyNext
  exact wpAny_bind (wpAny_attempt (wpAny_callSpecial?_slot (name := Str.ofString "__next__") hT F.slot_zip_next
    (wpAny_call_entry F.slot_zip_next hT F.entry_zip_next
      (zip2_item hp0 hp1 hz hTI hTO i0 i1 h0 h1 e0 e1 fun h' q0 q1 q2 q3 q4 q5 q6 => wpAny_pure (hQ h' q0 q1 q2 q3 q4 q5 q6)) (F.args_zip_next_1 _))))
theorem next2_end (hh : A.handled = none) {p : Nat} {l0 l1 : Nat} {b0 b1 : Bool} {xs0 xs1 : Array Value} {a0 a1 : Value} {k : Nat} (hp0 : l0 < p) (hp1 : l1 < p) (hz : IsZip s.heap (p + 4) (p + 2) (p + 3) .none) (hTI : TupN s.heap (p + 2) #[.ref p, .ref (p + 1)]) (hTO : TupN s.heap (p + 3) #[a0, a1]) (i0 : ItAt s.heap b0 p l0 k) (i1 : ItAt s.heap b1 (p + 1) l1 k) (h0 : SqAt s.heap b0 l0 xs0) (h1 : SqAt s.heap b1 l1 xs1) (hend : xs0[k]? = none ∨ xs1[k]? = none) {Q : Option Value → Shared → Prop}
    (hQ : ∀ h', (∀ (c : Nat) o, c ≠ (p + 4) → c ≠ (p + 3) → c ≠ p → c ≠ (p + 1) → s.heap.get? c = some o → h'.get? c = some o) → Q none { s with heap := h' }) : wpAny (model prog w) A (pyNext (.ref (p + 4))) Q E s := by
  have hT : s.TypeIs (.ref (p + 4)) "zip" := ⟨_, hz, rfl⟩
  unfold pyNext
  refine wpAny_bind (wpAny_attempt (wpAny_callSpecial?_slot (name := Str.ofString "__next__") hT F.slot_zip_next
    (wpAny_call_entry F.slot_zip_next hT F.entry_zip_next (zip2_end (A := A.in1) hh hp0 hp1 hz hTI hTO i0 i1 h0 h1 hend fun h' e hk he => ?_) (F.args_zip_next_1 _))))
  obtain ⟨o, ho, hc⟩ := he
  refine wpAny_bind (wpAny_isInstance (T := "StopIteration") (b := true) ⟨o, ho, hc⟩ isSubtype_stop ?_)
  exact wpAny_pure (hQ _ hk)
theorem typeCall_zip2 (a0 a1 : Value) : checkTypeCall "zip" ⟨[a0, a1], []⟩ = pure () := by kernel_rfl
theorem newCall_zip2 (a0 a1 : Value) : checkBuiltinCall "zip.__new__" ⟨[.type "zip", a0, a1], []⟩ = pure () := by kernel_rfl
theorem args_init2 (c a0 a1 : Value) : argsOk "object.__init__" ⟨[c, a0, a1], []⟩ := by
  unfold argsOk; rw [signature?_of (id := "object.__init__") (n := ['_', '_', 't', 'i', 'n', 'i', '_', '_']) (o := ['t', 'c', 'e', 'j', 'b', 'o']) (by kernel_rfl) F.owner_object]; kernel_rfl
abbrev zh2_0 (h : Heap) (b0 : Bool) (l0 : Addr) : Heap := Heap.push h { cls := .type (itN b0), data := .fields #[.ref l0, .int 0 0] }
abbrev zh2_1 (h : Heap) (b0 : Bool) (l0 : Addr) (b1 : Bool) (l1 : Addr) : Heap := Heap.push (zh2_0 h b0 l0) { cls := .type (itN b1), data := .fields #[.ref l1, .int 0 0] }
abbrev zh2_2 (h : Heap) (b0 : Bool) (l0 : Addr) (b1 : Bool) (l1 : Addr) : Heap := Heap.push (zh2_1 h b0 l0 b1 l1) { cls := .type "tuple", data := .seq #[.ref h.objs.size, .ref (zh2_0 h b0 l0).objs.size] }
abbrev zh2_3 (h : Heap) (b0 : Bool) (l0 : Addr) (b1 : Bool) (l1 : Addr) : Heap := Heap.push (zh2_2 h b0 l0 b1 l1) { cls := .type "tuple", data := .seq #[.none, .none] }
abbrev zh2_4 (h : Heap) (b0 : Bool) (l0 : Addr) (b1 : Bool) (l1 : Addr) : Heap := Heap.push (zh2_3 h b0 l0 b1 l1) { cls := .type "zip", data := .fields #[.none, .bool false, .bool false, .ref (zh2_1 h b0 l0 b1 l1).objs.size, .ref (zh2_2 h b0 l0 b1 l1).objs.size] }
theorem meets_zip2 (b0 : Bool) (l0 : Addr) (b1 : Bool) (l1 : Addr) (xs0 xs1 : Array Value) :
    Meets (Builtin.«zip.__new__» ⟨[.type "zip", .ref l0, .ref l1], []⟩) (fun _ R s => SqAt s.heap b0 l0 xs0 ∧ SqAt s.heap b1 l1 xs1 ∧ R (.ok (.ret (.ref (zh2_3 s.heap b0 l0 b1 l1).objs.size))) { s with heap := zh2_4 s.heap b0 l0 b1 l1 }) :=
  .of_wp fun prog w A R s h => by
    obtain ⟨hp, g, d, tk, os⟩ := s; obtain ⟨hl0, hl1, h⟩ := h
    have hsub := sub_zip
    have hL0 : SqAt (Shared.heap ⟨hp, g, d, tk, os⟩) b0 l0 xs0 := hl0
    have hL1 : SqAt (Shared.heap ⟨(zh2_0 hp b0 l0), g, d, tk, os⟩) b1 l1 xs1 := (SqAt.push hl1)
    wp_walk using pyIterI hL0, pyIterI hL1
    exact ⟨_, rfl, h⟩
theorem call_zip2 {l0 l1 : Addr} {b0 b1 : Bool} {xs0 xs1 : Array Value} {Q : Value → Shared → Prop} (hl0 : SqAt s.heap b0 l0 xs0) (hl1 : SqAt s.heap b1 l1 xs1)
    (h : ∀ h', IsZip h' (s.heap.objs.size + 4) (s.heap.objs.size + 2) (s.heap.objs.size + 3) .none → TupN h' (s.heap.objs.size + 2) #[.ref s.heap.objs.size, .ref (s.heap.objs.size + 1)] → TupN h' (s.heap.objs.size + 3) #[.none, .none] → ItAt h' b0 s.heap.objs.size l0 0 → ItAt h' b1 (s.heap.objs.size + 1) l1 0 → (∀ c o, s.heap.get? c = some o → h'.get? c = some o) → Q (.ref (s.heap.objs.size + 4)) { s with heap := h' }) :
    wpAny (model prog w) A (call (.type "zip") [.ref l0, .ref l1]) Q E s := by
  refine callType_new F.called_zip (by decide) (typeCall_zip2 _ _) (newCall_zip2 _ _) (fun obj => args_init2 obj _ _) F.entry_zip_new (meets_zip2 b0 l0 b1 l1 xs0 xs1) ⟨hl0, hl1, ?_⟩
  have z0 : (zh2_0 s.heap b0 l0).objs.size = s.heap.objs.size + 1 := Heap.size_push ..
  have z1 : (zh2_1 s.heap b0 l0 b1 l1).objs.size = s.heap.objs.size + 2 := by rw [Heap.size_push, z0]
  have z2 : (zh2_2 s.heap b0 l0 b1 l1).objs.size = s.heap.objs.size + 3 := by rw [Heap.size_push, z1]
  have z3 : (zh2_3 s.heap b0 l0 b1 l1).objs.size = s.heap.objs.size + 4 := by rw [Heap.size_push, z2]
  have z4 : (zh2_4 s.heap b0 l0 b1 l1).objs.size = s.heap.objs.size + 5 := by rw [Heap.size_push, z3]
  have g0 : (zh2_4 s.heap b0 l0 b1 l1).get? s.heap.objs.size = some _ := (Heap.get?_push_of_some _ (Heap.get?_push_of_some _ (Heap.get?_push_of_some _ (Heap.get?_push_of_some _ (Heap.get?_push_size _ rfl)))))
  have g1 : (zh2_4 s.heap b0 l0 b1 l1).get? (zh2_0 s.heap b0 l0).objs.size = some _ := (Heap.get?_push_of_some _ (Heap.get?_push_of_some _ (Heap.get?_push_of_some _ (Heap.get?_push_size _ rfl))))
  have g2 : (zh2_4 s.heap b0 l0 b1 l1).get? (zh2_1 s.heap b0 l0 b1 l1).objs.size = some _ := (Heap.get?_push_of_some _ (Heap.get?_push_of_some _ (Heap.get?_push_size _ rfl)))
  have g3 : (zh2_4 s.heap b0 l0 b1 l1).get? (zh2_2 s.heap b0 l0 b1 l1).objs.size = some _ := (Heap.get?_push_of_some _ (Heap.get?_push_size _ rfl))
  have g4 : (zh2_4 s.heap b0 l0 b1 l1).get? (zh2_3 s.heap b0 l0 b1 l1).objs.size = some _ := (Heap.get?_push_size _ rfl)
  show _ ∧ _
  rw [z0] at g1
  rw [z1] at g2
  rw [z2] at g3
  rw [z3] at g4
  rw [z0] at g2
  rw [z1, z2] at g4
  rw [z3]
  exact ⟨⟨_, g4, rfl⟩, h _ g4 g2 g3 (itAt_new g0) (itAt_new g1) fun c o x => (Heap.get?_push_of_some _ (Heap.get?_push_of_some _ (Heap.get?_push_of_some _ (Heap.get?_push_of_some _ (Heap.get?_push_of_some _ x)))))⟩
theorem next3_item {p : Nat} {l0 l1 l2 : Nat} {b0 b1 b2 : Bool} {xs0 xs1 xs2 : Array Value} {a0 a1 a2 : Value} {k : Nat} (hp0 : l0 < p) (hp1 : l1 < p) (hp2 : l2 < p) (hz : IsZip s.heap (p + 5) (p + 3) (p + 4) .none) (hTI : TupN s.heap (p + 3) #[.ref p, .ref (p + 1), .ref (p + 2)]) (hTO : TupN s.heap (p + 4) #[a0, a1, a2]) (i0 : ItAt s.heap b0 p l0 k) (i1 : ItAt s.heap b1 (p + 1) l1 k) (i2 : ItAt s.heap b2 (p + 2) l2 k) (h0 : SqAt s.heap b0 l0 xs0) (h1 : SqAt s.heap b1 l1 xs1) (h2 : SqAt s.heap b2 l2 xs2) {x0 x1 x2 : Value} (e0 : xs0[k]? = some x0) (e1 : xs1[k]? = some x1) (e2 : xs2[k]? = some x2) {Q : Option Value → Shared → Prop}
    (hQ : ∀ h', IsZip h' (p + 5) (p + 3) (p + 4) (rawInt s.heap.objs.size) → TupN h' (p + 4) #[x0, x1, x2] → ItAt h' b0 p l0 (k + 1) → ItAt h' b1 (p + 1) l1 (k + 1) → ItAt h' b2 (p + 2) l2 (k + 1) → TupN h' s.heap.objs.size #[x0, x1, x2] → h'.objs.size = s.heap.objs.size + 1 → (∀ (c : Nat) o, c ≠ (p + 5) → c ≠ (p + 4) → c ≠ p → c ≠ (p + 1) → c ≠ (p + 2) → s.heap.get? c = some o → h'.get? c = some o) → Q (some (.ref s.heap.objs.size)) { s with heap := h' }) :
    wpAny (model prog w) A (pyNext (.ref (p + 5))) Q E s := by
  have hT : s.TypeIs (.ref (p + 5)) "zip" := ⟨_, hz, rfl⟩
  unfold pyNext
  exact wpAny_bind (wpAny_attempt (wpAny_callSpecial?_slot (name := Str.ofString "__next__") hT F.slot_zip_next
    (wpAny_call_entry F.slot_zip_next hT F.entry_zip_next
      (zip3_item hp0 hp1 hp2 hz hTI hTO i0 i1 i2 h0 h1 h2 e0 e1 e2 fun h' q0 q1 q2 q3 q4 q5 q6 q7 => wpAny_pure (hQ h' q0 q1 q2 q3 q4 q5 q6 q7)) (F.args_zip_next_1 _))))
theorem next3_end (hh : A.handled = none) {p : Nat} {l0 l1 l2 : Nat} {b0 b1 b2 : Bool} {xs0 xs1 xs2 : Array Value} {a0 a1 a2 : Value} {k : Nat} (hp0 : l0 < p) (hp1 : l1 < p) (hp2 : l2 < p) (hz : IsZip s.heap (p + 5) (p + 3) (p + 4) .none) (hTI : TupN s.heap (p + 3) #[.ref p, .ref (p + 1), .ref (p + 2)]) (hTO : TupN s.heap (p + 4) #[a0, a1, a2]) (i0 : ItAt s.heap b0 p l0 k) (i1 : ItAt s.heap b1 (p + 1) l1 k) (i2 : ItAt s.heap b2 (p + 2) l2 k) (h0 : SqAt s.heap b0 l0 xs0) (h1 : SqAt s.heap b1 l1 xs1) (h2 : SqAt s.heap b2 l2 xs2) (hend : xs0[k]? = none ∨ xs1[k]? = none ∨ xs2[k]? = none) {Q : Option Value → Shared → Prop}
    (hQ : ∀ h', (∀ (c : Nat) o, c ≠ (p + 5) → c ≠ (p + 4) → c ≠ p → c ≠ (p + 1) → c ≠ (p + 2) → s.heap.get? c = some o → h'.get? c = some o) → Q none { s with heap := h' }) : wpAny (model prog w) A (pyNext (.ref (p + 5))) Q E s := by
  have hT : s.TypeIs (.ref (p + 5)) "zip" := ⟨_, hz, rfl⟩
  unfold pyNext
  refine wpAny_bind (wpAny_attempt (wpAny_callSpecial?_slot (name := Str.ofString "__next__") hT F.slot_zip_next
    (wpAny_call_entry F.slot_zip_next hT F.entry_zip_next (zip3_end (A := A.in1) hh hp0 hp1 hp2 hz hTI hTO i0 i1 i2 h0 h1 h2 hend fun h' e hk he => ?_) (F.args_zip_next_1 _))))
  obtain ⟨o, ho, hc⟩ := he
  refine wpAny_bind (wpAny_isInstance (T := "StopIteration") (b := true) ⟨o, ho, hc⟩ isSubtype_stop ?_)
  exact wpAny_pure (hQ _ hk)
theorem typeCall_zip3 (a0 a1 a2 : Value) : checkTypeCall "zip" ⟨[a0, a1, a2], []⟩ = pure () := by kernel_rfl
theorem newCall_zip3 (a0 a1 a2 : Value) : checkBuiltinCall "zip.__new__" ⟨[.type "zip", a0, a1, a2], []⟩ = pure () := by kernel_rfl
theorem args_init3 (c a0 a1 a2 : Value) : argsOk "object.__init__" ⟨[c, a0, a1, a2], []⟩ := by
  unfold argsOk; rw [signature?_of (id := "object.__init__") (n := ['_', '_', 't', 'i', 'n', 'i', '_', '_']) (o := ['t', 'c', 'e', 'j', 'b', 'o']) (by kernel_rfl) F.owner_object]; kernel_rfl
abbrev zh3_0 (h : Heap) (b0 : Bool) (l0 : Addr) : Heap := Heap.push h { cls := .type (itN b0), data := .fields #[.ref l0, .int 0 0] }
abbrev zh3_1 (h : Heap) (b0 : Bool) (l0 : Addr) (b1 : Bool) (l1 : Addr) : Heap := Heap.push (zh3_0 h b0 l0) { cls := .type (itN b1), data := .fields #[.ref l1, .int 0 0] }
abbrev zh3_2 (h : Heap) (b0 : Bool) (l0 : Addr) (b1 : Bool) (l1 : Addr) (b2 : Bool) (l2 : Addr) : Heap := Heap.push (zh3_1 h b0 l0 b1 l1) { cls := .type (itN b2), data := .fields #[.ref l2, .int 0 0] }
abbrev zh3_3 (h : Heap) (b0 : Bool) (l0 : Addr) (b1 : Bool) (l1 : Addr) (b2 : Bool) (l2 : Addr) : Heap := Heap.push (zh3_2 h b0 l0 b1 l1 b2 l2) { cls := .type "tuple", data := .seq #[.ref h.objs.size, .ref (zh3_0 h b0 l0).objs.size, .ref (zh3_1 h b0 l0 b1 l1).objs.size] }
abbrev zh3_4 (h : Heap) (b0 : Bool) (l0 : Addr) (b1 : Bool) (l1 : Addr) (b2 : Bool) (l2 : Addr) : Heap := Heap.push (zh3_3 h b0 l0 b1 l1 b2 l2) { cls := .type "tuple", data := .seq #[.none, .none, .none] }
abbrev zh3_5 (h : Heap) (b0 : Bool) (l0 : Addr) (b1 : Bool) (l1 : Addr) (b2 : Bool) (l2 : Addr) : Heap := Heap.push (zh3_4 h b0 l0 b1 l1 b2 l2) { cls := .type "zip", data := .fields #[.none, .bool false, .bool false, .ref (zh3_2 h b0 l0 b1 l1 b2 l2).objs.size, .ref (zh3_3 h b0 l0 b1 l1 b2 l2).objs.size] }
theorem meets_zip3 (b0 : Bool) (l0 : Addr) (b1 : Bool) (l1 : Addr) (b2 : Bool) (l2 : Addr) (xs0 xs1 xs2 : Array Value) :
    Meets (Builtin.«zip.__new__» ⟨[.type "zip", .ref l0, .ref l1, .ref l2], []⟩) (fun _ R s => SqAt s.heap b0 l0 xs0 ∧ SqAt s.heap b1 l1 xs1 ∧ SqAt s.heap b2 l2 xs2 ∧ R (.ok (.ret (.ref (zh3_4 s.heap b0 l0 b1 l1 b2 l2).objs.size))) { s with heap := zh3_5 s.heap b0 l0 b1 l1 b2 l2 }) :=
  .of_wp fun prog w A R s h => by
    obtain ⟨hp, g, d, tk, os⟩ := s; obtain ⟨hl0, hl1, hl2, h⟩ := h
    have hsub := sub_zip
    have hL0 : SqAt (Shared.heap ⟨hp, g, d, tk, os⟩) b0 l0 xs0 := hl0
    have hL1 : SqAt (Shared.heap ⟨(zh3_0 hp b0 l0), g, d, tk, os⟩) b1 l1 xs1 := (SqAt.push hl1)
    have hL2 : SqAt (Shared.heap ⟨(zh3_1 hp b0 l0 b1 l1), g, d, tk, os⟩) b2 l2 xs2 := (SqAt.push (SqAt.push hl2))
    wp_walk using pyIterI hL0, pyIterI hL1, pyIterI hL2
    exact ⟨_, rfl, h⟩
theorem call_zip3 {l0 l1 l2 : Addr} {b0 b1 b2 : Bool} {xs0 xs1 xs2 : Array Value} {Q : Value → Shared → Prop} (hl0 : SqAt s.heap b0 l0 xs0) (hl1 : SqAt s.heap b1 l1 xs1) (hl2 : SqAt s.heap b2 l2 xs2)
    (h : ∀ h', IsZip h' (s.heap.objs.size + 5) (s.heap.objs.size + 3) (s.heap.objs.size + 4) .none → TupN h' (s.heap.objs.size + 3) #[.ref s.heap.objs.size, .ref (s.heap.objs.size + 1), .ref (s.heap.objs.size + 2)] → TupN h' (s.heap.objs.size + 4) #[.none, .none, .none] → ItAt h' b0 s.heap.objs.size l0 0 → ItAt h' b1 (s.heap.objs.size + 1) l1 0 → ItAt h' b2 (s.heap.objs.size + 2) l2 0 → (∀ c o, s.heap.get? c = some o → h'.get? c = some o) → Q (.ref (s.heap.objs.size + 5)) { s with heap := h' }) :
    wpAny (model prog w) A (call (.type "zip") [.ref l0, .ref l1, .ref l2]) Q E s := by
  refine callType_new F.called_zip (by decide) (typeCall_zip3 _ _ _) (newCall_zip3 _ _ _) (fun obj => args_init3 obj _ _ _) F.entry_zip_new (meets_zip3 b0 l0 b1 l1 b2 l2 xs0 xs1 xs2) ⟨hl0, hl1, hl2, ?_⟩
  have z0 : (zh3_0 s.heap b0 l0).objs.size = s.heap.objs.size + 1 := Heap.size_push ..
  have z1 : (zh3_1 s.heap b0 l0 b1 l1).objs.size = s.heap.objs.size + 2 := by rw [Heap.size_push, z0]
  have z2 : (zh3_2 s.heap b0 l0 b1 l1 b2 l2).objs.size = s.heap.objs.size + 3 := by rw [Heap.size_push, z1]
  have z3 : (zh3_3 s.heap b0 l0 b1 l1 b2 l2).objs.size = s.heap.objs.size + 4 := by rw [Heap.size_push, z2]
  have z4 : (zh3_4 s.heap b0 l0 b1 l1 b2 l2).objs.size = s.heap.objs.size + 5 := by rw [Heap.size_push, z3]
  have z5 : (zh3_5 s.heap b0 l0 b1 l1 b2 l2).objs.size = s.heap.objs.size + 6 := by rw [Heap.size_push, z4]
  have g0 : (zh3_5 s.heap b0 l0 b1 l1 b2 l2).get? s.heap.objs.size = some _ := (Heap.get?_push_of_some _ (Heap.get?_push_of_some _ (Heap.get?_push_of_some _ (Heap.get?_push_of_some _ (Heap.get?_push_of_some _ (Heap.get?_push_size _ rfl))))))
  have g1 : (zh3_5 s.heap b0 l0 b1 l1 b2 l2).get? (zh3_0 s.heap b0 l0).objs.size = some _ := (Heap.get?_push_of_some _ (Heap.get?_push_of_some _ (Heap.get?_push_of_some _ (Heap.get?_push_of_some _ (Heap.get?_push_size _ rfl)))))
  have g2 : (zh3_5 s.heap b0 l0 b1 l1 b2 l2).get? (zh3_1 s.heap b0 l0 b1 l1).objs.size = some _ := (Heap.get?_push_of_some _ (Heap.get?_push_of_some _ (Heap.get?_push_of_some _ (Heap.get?_push_size _ rfl))))
  have g3 : (zh3_5 s.heap b0 l0 b1 l1 b2 l2).get? (zh3_2 s.heap b0 l0 b1 l1 b2 l2).objs.size = some _ := (Heap.get?_push_of_some _ (Heap.get?_push_of_some _ (Heap.get?_push_size _ rfl)))
  have g4 : (zh3_5 s.heap b0 l0 b1 l1 b2 l2).get? (zh3_3 s.heap b0 l0 b1 l1 b2 l2).objs.size = some _ := (Heap.get?_push_of_some _ (Heap.get?_push_size _ rfl))
  have g5 : (zh3_5 s.heap b0 l0 b1 l1 b2 l2).get? (zh3_4 s.heap b0 l0 b1 l1 b2 l2).objs.size = some _ := (Heap.get?_push_size _ rfl)
  show _ ∧ _
  rw [z0] at g1
  rw [z1] at g2
  rw [z2] at g3
  rw [z3] at g4
  rw [z4] at g5
  rw [z0, z1] at g3
  rw [z2, z3] at g5
  rw [z4]
  exact ⟨⟨_, g5, rfl⟩, h _ g5 g3 g4 (itAt_new g0) (itAt_new g1) (itAt_new g2) fun c o x => (Heap.get?_push_of_some _ (Heap.get?_push_of_some _ (Heap.get?_push_of_some _ (Heap.get?_push_of_some _ (Heap.get?_push_of_some _ (Heap.get?_push_of_some _ x))))))⟩
end
end IP

set_option maxHeartbeats 4000000
/-! IPZ: zip of lists and tuples, two or three of them. -/
namespace IP
open PySem PySem.Spec PyProof.Rows L2
def Sq (K : PySem.W.Frag) (H : Hp) (a : Addr × Bool) (xs : List V) : Prop := match a.2 with
  | true => SqL K H a.1 xs
  | false => SqT K H a.1 xs
def ItN (K : PySem.W.Frag) (as : List (Addr × Bool)) : It :=
  ⟨fun i H => ∃ xss : List (List V), Paired (Sq K H) as xss ∧ ∀ xs ∈ xss, i < xs.length,
   fun i H v H' => ∃ T ys, v = .ref T ∧ H T = none ∧ H' = upd H T (.tup ys) ∧ ∀ xss : List (List V), Paired (Sq K H) as xss → Paired (fun (xs : List V) y => xs[i]? = some y) xss ys,
   fun i H => ∃ xss : List (List V), Paired (Sq K H) as xss ∧ ∃ xs ∈ xss, xs.length ≤ i⟩
def iZipN (K : PySem.W.Frag) (ta : TA) : TI := fun σ H R => ta σ H fun vs H1 => ∃ (as : List (Addr × Bool)) (xss : List (List V)), vs = as.map (fun a => V.ref a.1) ∧ Paired (Sq K H1) as xss ∧ (as.length = 2 ∨ as.length = 3) ∧ R (ItN K as) H1
theorem ItAt.obj {h : Heap} {b : Bool} {it l : Addr} {k : Nat} (x : ItAt h b it l k) : ∃ o, h.get? it = some o ∧ ∀ v, o.data ≠ .cell v := by
  cases b with
  | true =>
    obtain ⟨o, e, c, d⟩ := (show h.IsListIter it l k from x)
    exact ⟨o, e, fun v z => by rw [d] at z; cases z⟩
  | false =>
    obtain ⟨o, e, c, d⟩ := (show h.IsTupleIter it l k from x)
    exact ⟨o, e, fun v z => by rw [d] at z; cases z⟩
theorem SqAt.lt {h : Heap} {b : Bool} {l : Addr} {vs : Array Value} (x : SqAt h b l vs) : l < h.objs.size := by
  cases b with
  | true =>
    obtain ⟨o, e, _⟩ := (show h.IsList l vs from x)
    exact Heap.lt_size e
  | false =>
    obtain ⟨o, e, _⟩ := (show h.IsTuple l vs from x)
    exact Heap.lt_size e
theorem sq2 {K : PySem.W.Frag} {H : Hp} {a b : Addr × Bool} {xss : List (List V)} (h : Paired (Sq K H) [a, b] xss) : ∃ xs ys, xss = [xs, ys] ∧ Sq K H a xs ∧ Sq K H b ys := by
  cases h with
  | cons h t =>
    cases t with
    | cons h2 t =>
      cases t
      exact ⟨_, _, rfl, h, h2⟩
theorem sq3 {K : PySem.W.Frag} {H : Hp} {a b c : Addr × Bool} {xss : List (List V)} (h : Paired (Sq K H) [a, b, c] xss) : ∃ xs ys zs, xss = [xs, ys, zs] ∧ Sq K H a xs ∧ Sq K H b ys ∧ Sq K H c zs := by
  cases h with
  | cons h t =>
    cases t with
    | cons h2 t =>
      cases t with
      | cons h3 t =>
        cases t
        exact ⟨_, _, _, rfl, h, h2, h3⟩
section
variable {X : Cx} {pins : List (Addr × Obj)} {σ : L2.St} {H : Hp} {s : Shared}
theorem _root_.L2.Inv.sq (I : Inv X pins σ H s) {a : Addr} {b : Bool} {xs : List V} (h : Sq X.K H (a, b) xs) : ∃ its : List Value, Vals xs its ∧ SqAt s.heap b a its.toArray := by
  cases b with
  | true =>
    obtain ⟨its, rv, p, _⟩ := I.list (show SqL X.K H a xs from h)
    exact ⟨its, rv, p.isList⟩
  | false =>
    obtain ⟨its, rv, p, _⟩ := I.tuple (show SqT X.K H a xs from h)
    exact ⟨its, rv, p⟩
theorem _root_.L2.Inv.sq_inj (I : Inv X pins σ H s) {a : Addr} {b : Bool} {xs ys : List V} (h : Sq X.K H (a, b) xs) (h' : Sq X.K H (a, b) ys) : xs = ys := by
  cases b with
  | true => exact I.list_inj h h'
  | false => exact I.tuple_inj h h'
end
theorem turn_zip2 {P : Program} {w : World} {K : PySem.W.Frag} {elts : List Expr} {kk : Nat} {tpos : Pos} {p l0 l1 : Nat} {b0 b1 : Bool} (hp0 : l0 < p) (hp1 : l1 < p) :
    Turn P w K (.Tuple elts kk tpos) (ItN K [(l0, b0), (l1, b1)]) [(p + 4), (p + 2), (p + 3), p, (p + 1)] (p + 4) (fun i h => IsZip h (p + 4) (p + 2) (p + 3) .none ∧ TupN h (p + 2) #[.ref p, .ref (p + 1)] ∧ (∃ a0 a1, TupN h (p + 3) #[a0, a1]) ∧ ItAt h b0 p l0 i ∧ ItAt h b1 (p + 1) l1 i) where
  mem := by simp
  obj := fun i h st c hc => by
    obtain ⟨hz, hTI, ⟨a0, a1, hTO⟩, i0, i1⟩ := st
    have e' : c = (p + 4) ∨ c = (p + 2) ∨ c = (p + 3) ∨ c = p ∨ c = (p + 1) := by simpa using hc
    rcases e' with q | q | q | q | q
    · rw [q]; exact ⟨_, hz, fun v q => nomatch q⟩
    · rw [q]; exact ⟨_, hTI, fun v q => nomatch q⟩
    · rw [q]; exact ⟨_, hTO, fun v q => nomatch q⟩
    · rw [q]; exact i0.obj
    · rw [q]; exact i1.obj
  keep := fun i h h' st k => by
    obtain ⟨hz, hTI, ⟨a0, a1, hTO⟩, i0, i1⟩ := st
    exact ⟨k (p + 4) (by simp) _ hz, k (p + 2) (by simp) _ hTI, ⟨a0, a1, k (p + 3) (by simp) _ hTO⟩, i0.to fun o q => k p (by simp) o q, i1.to fun o q => k (p + 1) (by simp) o q⟩
  item := by
    intro X hP hw hK hc i pins s σ H E I hf st hg
    subst hP hw hK
    obtain ⟨hz, hTI, ⟨a0, a1, hTO⟩, i0, i1⟩ := st
    obtain ⟨xss, hq, hall⟩ := hg
    obtain ⟨ys0, ys1, rfl, hq0, hq1⟩ := sq2 hq
    obtain ⟨its0, rv0, sa0⟩ := I.sq hq0
    have hi0 : i < ys0.length := hall _ (by simp)
    obtain ⟨u0, hu0, ru0⟩ := rv0.get (List.getElem?_eq_getElem hi0)
    obtain ⟨its1, rv1, sa1⟩ := I.sq hq1
    have hi1 : i < ys1.length := hall _ (by simp)
    obtain ⟨u1, hu1, ru1⟩ := rv1.get (List.getElem?_eq_getElem hi1)
    have hzl : (p + 4) < s.heap.objs.size := Heap.lt_size hz
    refine next2_item hp0 hp1 hz hTI hTO i0 i1 sa0 sa1 (x0 := u0) (x1 := u1) (by simpa using hu0) (by simpa using hu1) fun h' z' TO' j0 j1 hT hsz hk => ?_
    refine ⟨_, rfl, wpAny_letOwnedTupleGo_zip (s := { s with heap := h' }) z' fun h'' z'' sb => ?_⟩
    have hT2 : h''.get? s.heap.objs.size = some { cls := .type "tuple", data := .seq #[u0, u1] } := (sb.2 _ (Nat.ne_of_gt hzl)).trans hT
    have new : ObjOk X.prog X.w (upd H s.heap.objs.size (.tup [ys0[i], ys1[i]])) h'' s.heap.objs.size (.tup [ys0[i], ys1[i]]) :=
      ⟨by show 2 ≤ sizeLine; decide, [u0, u1], .cons ru0 (.cons ru1 .nil), ⟨_, hT2, rfl, _, rfl⟩⟩
    have I1 : Inv X pins σ (upd H s.heap.objs.size (.tup [ys0[i], ys1[i]])) { s with heap := h'' } :=
      I.turnedNew (t' := s.toks) (ch := [(p + 4), (p + 2), (p + 3), p, (p + 1)]) (fun c o hb q => (sb.2 c (fun q' => hb (by simp [q']))).trans (hk c o (fun q' => hb (by simp [q'])) (fun q' => hb (by simp [q'])) (fun q' => hb (by simp [q'])) (fun q' => hb (by simp [q'])) q)) hf (Nat.le_refl _) new
    refine ⟨.ref s.heap.objs.size, _, I1, rfl, ⟨_, [ys0[i], ys1[i]], rfl, I.hok.fresh (Nat.le_refl _), rfl, fun yss hyy => ?_⟩, ⟨z'', ?_, ⟨u0, u1, ?_⟩, ?_, ?_⟩, fun c hcm => ?_⟩
    · obtain ⟨ws0, ws1, rfl, hw0, hw1⟩ := sq2 hyy
      exact .cons (by rw [I.sq_inj (hw0) hq0]; exact List.getElem?_eq_getElem hi0) (.cons (by rw [I.sq_inj (hw1) hq1]; exact List.getElem?_eq_getElem hi1) .nil)
    · exact (sb.2 _ (show (p + 2) ≠ (p + 4) by omega)).trans (hk (p + 2) _ (by omega) (by omega) (by omega) (by omega) hTI)
    · exact (sb.2 _ (show (p + 3) ≠ (p + 4) by omega)).trans TO'
    · exact j0.to fun o q => (sb.2 _ (show p ≠ (p + 4) by omega)).trans q
    · exact j1.to fun o q => (sb.2 _ (show (p + 1) ≠ (p + 4) by omega)).trans q
    · have hlt : c < s.heap.objs.size := by
        have e' : c = (p + 4) ∨ c = (p + 2) ∨ c = (p + 3) ∨ c = p ∨ c = (p + 1) := by simpa using hcm
        have e3 : ∀ m : Nat, m ≤ 4 → p + m < s.heap.objs.size := fun m hm => by
          have e2 : (p + 4) < s.heap.objs.size := hzl
          omega
        rcases e' with q | q | q | q | q
        · rw [q]; exact e3 4 (by omega)
        · rw [q]; exact e3 2 (by omega)
        · rw [q]; exact e3 3 (by omega)
        · rw [q]; exact e3 0 (by omega)
        · rw [q]; exact e3 1 (by omega)
      rw [upd_ne (Nat.ne_of_lt hlt)]
      exact (hf c hcm).1
  done := by
    intro X hP hw hK hc i pins s σ H E I hf st hg
    subst hP hw hK
    obtain ⟨hz, hTI, ⟨a0, a1, hTO⟩, i0, i1⟩ := st
    obtain ⟨xss, hq, xs, hxs, hend⟩ := hg
    obtain ⟨ys0, ys1, rfl, hq0, hq1⟩ := sq2 hq
    obtain ⟨its0, rv0, sa0⟩ := I.sq hq0
    have len0 := rv0.length
    obtain ⟨its1, rv1, sa1⟩ := I.sq hq1
    have len1 := rv1.length
    have he : its0.toArray[i]? = none ∨ its1.toArray[i]? = none := by
      simp only [List.mem_cons, List.not_mem_nil, or_false] at hxs
      rcases hxs with rfl | rfl
      · exact .inl (by simp; omega)
      · exact .inr (by simp; omega)
    exact next2_end (I.ok.hd hc) hp0 hp1 hz hTI hTO i0 i1 sa0 sa1 he fun h' hk => ⟨rfl, I.turnedL (t' := s.toks) (ch := [(p + 4), (p + 2), (p + 3), p, (p + 1)]) (fun c o hb q =>
      hk c o (fun q' => hb (by simp [q'])) (fun q' => hb (by simp [q'])) (fun q' => hb (by simp [q'])) (fun q' => hb (by simp [q'])) q) hf⟩
  self := fun A i s Q E st h => wpAny_pyIter_zip st.1 h
theorem turn_zip3 {P : Program} {w : World} {K : PySem.W.Frag} {elts : List Expr} {kk : Nat} {tpos : Pos} {p l0 l1 l2 : Nat} {b0 b1 b2 : Bool} (hp0 : l0 < p) (hp1 : l1 < p) (hp2 : l2 < p) :
    Turn P w K (.Tuple elts kk tpos) (ItN K [(l0, b0), (l1, b1), (l2, b2)]) [(p + 5), (p + 3), (p + 4), p, (p + 1), (p + 2)] (p + 5) (fun i h => IsZip h (p + 5) (p + 3) (p + 4) .none ∧ TupN h (p + 3) #[.ref p, .ref (p + 1), .ref (p + 2)] ∧ (∃ a0 a1 a2, TupN h (p + 4) #[a0, a1, a2]) ∧ ItAt h b0 p l0 i ∧ ItAt h b1 (p + 1) l1 i ∧ ItAt h b2 (p + 2) l2 i) where
  mem := by simp
  obj := fun i h st c hc => by
    obtain ⟨hz, hTI, ⟨a0, a1, a2, hTO⟩, i0, i1, i2⟩ := st
    have e' : c = (p + 5) ∨ c = (p + 3) ∨ c = (p + 4) ∨ c = p ∨ c = (p + 1) ∨ c = (p + 2) := by simpa using hc
    rcases e' with q | q | q | q | q | q
    · rw [q]; exact ⟨_, hz, fun v q => nomatch q⟩
    · rw [q]; exact ⟨_, hTI, fun v q => nomatch q⟩
    · rw [q]; exact ⟨_, hTO, fun v q => nomatch q⟩
    · rw [q]; exact i0.obj
    · rw [q]; exact i1.obj
    · rw [q]; exact i2.obj
  keep := fun i h h' st k => by
    obtain ⟨hz, hTI, ⟨a0, a1, a2, hTO⟩, i0, i1, i2⟩ := st
    exact ⟨k (p + 5) (by simp) _ hz, k (p + 3) (by simp) _ hTI, ⟨a0, a1, a2, k (p + 4) (by simp) _ hTO⟩, i0.to fun o q => k p (by simp) o q, i1.to fun o q => k (p + 1) (by simp) o q, i2.to fun o q => k (p + 2) (by simp) o q⟩
  item := by
    intro X hP hw hK hc i pins s σ H E I hf st hg
    subst hP hw hK
    obtain ⟨hz, hTI, ⟨a0, a1, a2, hTO⟩, i0, i1, i2⟩ := st
    obtain ⟨xss, hq, hall⟩ := hg
    obtain ⟨ys0, ys1, ys2, rfl, hq0, hq1, hq2⟩ := sq3 hq
    obtain ⟨its0, rv0, sa0⟩ := I.sq hq0
    have hi0 : i < ys0.length := hall _ (by simp)
    obtain ⟨u0, hu0, ru0⟩ := rv0.get (List.getElem?_eq_getElem hi0)
    obtain ⟨its1, rv1, sa1⟩ := I.sq hq1
    have hi1 : i < ys1.length := hall _ (by simp)
    obtain ⟨u1, hu1, ru1⟩ := rv1.get (List.getElem?_eq_getElem hi1)
    obtain ⟨its2, rv2, sa2⟩ := I.sq hq2
    have hi2 : i < ys2.length := hall _ (by simp)
    obtain ⟨u2, hu2, ru2⟩ := rv2.get (List.getElem?_eq_getElem hi2)
    have hzl : (p + 5) < s.heap.objs.size := Heap.lt_size hz
    refine next3_item hp0 hp1 hp2 hz hTI hTO i0 i1 i2 sa0 sa1 sa2 (x0 := u0) (x1 := u1) (x2 := u2) (by simpa using hu0) (by simpa using hu1) (by simpa using hu2) fun h' z' TO' j0 j1 j2 hT hsz hk => ?_
    refine ⟨_, rfl, wpAny_letOwnedTupleGo_zip (s := { s with heap := h' }) z' fun h'' z'' sb => ?_⟩
    have hT2 : h''.get? s.heap.objs.size = some { cls := .type "tuple", data := .seq #[u0, u1, u2] } := (sb.2 _ (Nat.ne_of_gt hzl)).trans hT
    have new : ObjOk X.prog X.w (upd H s.heap.objs.size (.tup [ys0[i], ys1[i], ys2[i]])) h'' s.heap.objs.size (.tup [ys0[i], ys1[i], ys2[i]]) :=
      ⟨by show 3 ≤ sizeLine; decide, [u0, u1, u2], .cons ru0 (.cons ru1 (.cons ru2 .nil)), ⟨_, hT2, rfl, _, rfl⟩⟩
    have I1 : Inv X pins σ (upd H s.heap.objs.size (.tup [ys0[i], ys1[i], ys2[i]])) { s with heap := h'' } :=
      I.turnedNew (t' := s.toks) (ch := [(p + 5), (p + 3), (p + 4), p, (p + 1), (p + 2)]) (fun c o hb q => (sb.2 c (fun q' => hb (by simp [q']))).trans (hk c o (fun q' => hb (by simp [q'])) (fun q' => hb (by simp [q'])) (fun q' => hb (by simp [q'])) (fun q' => hb (by simp [q'])) (fun q' => hb (by simp [q'])) q)) hf (Nat.le_refl _) new
    refine ⟨.ref s.heap.objs.size, _, I1, rfl, ⟨_, [ys0[i], ys1[i], ys2[i]], rfl, I.hok.fresh (Nat.le_refl _), rfl, fun yss hyy => ?_⟩, ⟨z'', ?_, ⟨u0, u1, u2, ?_⟩, ?_, ?_, ?_⟩, fun c hcm => ?_⟩
    · obtain ⟨ws0, ws1, ws2, rfl, hw0, hw1, hw2⟩ := sq3 hyy
      exact .cons (by rw [I.sq_inj (hw0) hq0]; exact List.getElem?_eq_getElem hi0) (.cons (by rw [I.sq_inj (hw1) hq1]; exact List.getElem?_eq_getElem hi1) (.cons (by rw [I.sq_inj (hw2) hq2]; exact List.getElem?_eq_getElem hi2) .nil))
    · exact (sb.2 _ (show (p + 3) ≠ (p + 5) by omega)).trans (hk (p + 3) _ (by omega) (by omega) (by omega) (by omega) (by omega) hTI)
    · exact (sb.2 _ (show (p + 4) ≠ (p + 5) by omega)).trans TO'
    · exact j0.to fun o q => (sb.2 _ (show p ≠ (p + 5) by omega)).trans q
    · exact j1.to fun o q => (sb.2 _ (show (p + 1) ≠ (p + 5) by omega)).trans q
    · exact j2.to fun o q => (sb.2 _ (show (p + 2) ≠ (p + 5) by omega)).trans q
    · have hlt : c < s.heap.objs.size := by
        have e' : c = (p + 5) ∨ c = (p + 3) ∨ c = (p + 4) ∨ c = p ∨ c = (p + 1) ∨ c = (p + 2) := by simpa using hcm
        have e3 : ∀ m : Nat, m ≤ 5 → p + m < s.heap.objs.size := fun m hm => by
          have e2 : (p + 5) < s.heap.objs.size := hzl
          omega
        rcases e' with q | q | q | q | q | q
        · rw [q]; exact e3 5 (by omega)
        · rw [q]; exact e3 3 (by omega)
        · rw [q]; exact e3 4 (by omega)
        · rw [q]; exact e3 0 (by omega)
        · rw [q]; exact e3 1 (by omega)
        · rw [q]; exact e3 2 (by omega)
      rw [upd_ne (Nat.ne_of_lt hlt)]
      exact (hf c hcm).1
  done := by
    intro X hP hw hK hc i pins s σ H E I hf st hg
    subst hP hw hK
    obtain ⟨hz, hTI, ⟨a0, a1, a2, hTO⟩, i0, i1, i2⟩ := st
    obtain ⟨xss, hq, xs, hxs, hend⟩ := hg
    obtain ⟨ys0, ys1, ys2, rfl, hq0, hq1, hq2⟩ := sq3 hq
    obtain ⟨its0, rv0, sa0⟩ := I.sq hq0
    have len0 := rv0.length
    obtain ⟨its1, rv1, sa1⟩ := I.sq hq1
    have len1 := rv1.length
    obtain ⟨its2, rv2, sa2⟩ := I.sq hq2
    have len2 := rv2.length
    have he : its0.toArray[i]? = none ∨ its1.toArray[i]? = none ∨ its2.toArray[i]? = none := by
      simp only [List.mem_cons, List.not_mem_nil, or_false] at hxs
      rcases hxs with rfl | rfl | rfl
      · exact .inl (by simp; omega)
      · exact .inr (.inl (by simp; omega))
      · exact .inr (.inr (by simp; omega))
    exact next3_end (I.ok.hd hc) hp0 hp1 hp2 hz hTI hTO i0 i1 i2 sa0 sa1 sa2 he fun h' hk => ⟨rfl, I.turnedL (t' := s.toks) (ch := [(p + 5), (p + 3), (p + 4), p, (p + 1), (p + 2)]) (fun c o hb q =>
      hk c o (fun q' => hb (by simp [q'])) (fun q' => hb (by simp [q'])) (fun q' => hb (by simp [q'])) (fun q' => hb (by simp [q'])) (fun q' => hb (by simp [q'])) q) hf⟩
  self := fun A i s Q E st h => wpAny_pyIter_zip st.1 h
end IP

set_option maxHeartbeats 4000000
namespace IP
open PySem PySem.Spec PyProof.Rows L2
section
variable {X : Cx} {pins : List (Addr × Obj)} {σ : L2.St} {H : Hp} {s : Shared} {E : Value → Shared → Prop} {R : It → Hp → Prop} {elts : List Expr} {kk : Nat} {tpos : Pos}
theorem fp_new {m c : Nat} (I : Inv X pins σ H s) (h : s.heap.objs.size ≤ c) : FpOk X pins H c := I.fpOk h (I.hok.fresh h)
theorem pie2 {l0 l1 : Addr} {b0 b1 : Bool} {xss : List (List V)} (I : Inv X pins σ H s) (hq : Paired (Sq X.K H) [(l0, b0), (l1, b1)] xss) (q : R (ItN X.K [(l0, b0), (l1, b1)]) H) :
    wpAny (model X.prog X.w) X.A (PySem.call (.type "zip") [.ref l0, .ref l1]) (fun v s1 => wpAny (model X.prog X.w) X.A (pyIter v) (PIE X pins σ (.Tuple elts kk tpos) R) E s1) E s := by
  obtain ⟨ys0, ys1, rfl, q0, q1⟩ := sq2 hq
  obtain ⟨its0, rv0, sa0⟩ := I.sq q0
  obtain ⟨its1, rv1, sa1⟩ := I.sq q1
  have T := turn_zip2 (P := X.prog) (w := X.w) (K := X.K) (elts := elts) (kk := kk) (tpos := tpos) (p := s.heap.objs.size) (b0 := b0) (b1 := b1) sa0.lt sa1.lt
  refine call_zip2 sa0 sa1 fun h' hz hTI hTO i0 i1 hk => wpAny_pyIter_zip hz ?_
  have I2 : Inv X pins σ H { s with heap := h' } := I.kept (t' := s.toks) hk
  refine ⟨_, _, _, _, H, rfl, I2, T, ⟨hz, hTI, ⟨_, _, hTO⟩, i0, i1⟩, ?_, q⟩
  intro c hcm
  refine fp_new (m := 0) I ?_
  simp only [List.mem_cons, List.not_mem_nil, or_false] at hcm
  rcases hcm with h | h | h | h | h <;> rw [h]
  · exact Nat.le_add_right _ _
  · exact Nat.le_add_right _ _
  · exact Nat.le_add_right _ _
  · exact Nat.le_refl _
  · exact Nat.le_add_right _ _
theorem pie3 {l0 l1 l2 : Addr} {b0 b1 b2 : Bool} {xss : List (List V)} (I : Inv X pins σ H s) (hq : Paired (Sq X.K H) [(l0, b0), (l1, b1), (l2, b2)] xss) (q : R (ItN X.K [(l0, b0), (l1, b1), (l2, b2)]) H) :
    wpAny (model X.prog X.w) X.A (PySem.call (.type "zip") [.ref l0, .ref l1, .ref l2]) (fun v s1 => wpAny (model X.prog X.w) X.A (pyIter v) (PIE X pins σ (.Tuple elts kk tpos) R) E s1) E s := by
  obtain ⟨ys0, ys1, ys2, rfl, q0, q1, q2⟩ := sq3 hq
  obtain ⟨its0, rv0, sa0⟩ := I.sq q0
  obtain ⟨its1, rv1, sa1⟩ := I.sq q1
  obtain ⟨its2, rv2, sa2⟩ := I.sq q2
  have T := turn_zip3 (P := X.prog) (w := X.w) (K := X.K) (elts := elts) (kk := kk) (tpos := tpos) (p := s.heap.objs.size) (b0 := b0) (b1 := b1) (b2 := b2) sa0.lt sa1.lt sa2.lt
  refine call_zip3 sa0 sa1 sa2 fun h' hz hTI hTO i0 i1 i2 hk => wpAny_pyIter_zip hz ?_
  have I2 : Inv X pins σ H { s with heap := h' } := I.kept (t' := s.toks) hk
  refine ⟨_, _, _, _, H, rfl, I2, T, ⟨hz, hTI, ⟨_, _, _, hTO⟩, i0, i1, i2⟩, ?_, q⟩
  intro c hcm
  refine fp_new (m := 0) I ?_
  simp only [List.mem_cons, List.not_mem_nil, or_false] at hcm
  rcases hcm with h | h | h | h | h | h <;> rw [h]
  · exact Nat.le_add_right _ _
  · exact Nat.le_add_right _ _
  · exact Nat.le_add_right _ _
  · exact Nat.le_refl _
  · exact Nat.le_add_right _ _
  · exact Nat.le_add_right _ _
end
theorem pi_zipN {X : Cx} {es : List Expr} {ta : TA} {p pos tpos : Pos} {elts : List Expr} {kk : Nat} (hg : Gl X "zip") (hm : X.mg "zip" = none) (ha : PA X es ta) (hl : es.length = 2 ∨ es.length = 3) (hs : es.any isStar = false) :
    PI X (.Tuple elts kk tpos) (.Call (.Name "zip" p) es [] pos) (iZipN X.K ta) := by
  cases es with
  | nil => exact absurd hl (by simp)
  | cons e es =>
    have hs' := hs
    simp only [List.any_cons, Bool.or_eq_false_iff] at hs'
    refine ⟨fun pins s σ H R I h => ?_⟩
    refine Call_ (ld_blt I hg hm PyProof.Rows.boot_zip (PyProof.Rows.callWith_type1 (thn (ha.run pos pins s σ H _ I h) fun us s1 ⟨vs, H1, I1, r1, q1⟩ => ?_) (star_cons hs'.1) (star_none hs'.2)))
    obtain ⟨as, xss, ex, hq, hla, q⟩ := q1
    cases as with
    | nil => exact absurd hla (by simp)
    | cons a as =>
      obtain ⟨l0, b0⟩ := a
      cases as with
      | nil => exact absurd hla (by simp)
      | cons a as =>
        obtain ⟨l1, b1⟩ := a
        cases as with
        | nil =>
          have ex : vs = [.ref l0, .ref l1] := ex
          subst ex
          obtain ⟨u0, u1, rfl, r, r'⟩ := vals2 r1
          cases (show u0 = Value.ref l0 from r)
          cases (show u1 = Value.ref l1 from r')
          exact pie2 I1 hq q
        | cons a as =>
          obtain ⟨l2, b2⟩ := a
          cases as with
          | cons _ _ => exact absurd hla (by simp)
          | nil =>
            have ex : vs = [.ref l0, .ref l1, .ref l2] := ex
            subst ex
            cases r1 with
            | cons r rt =>
              obtain ⟨u1, u2, rfl, r', r2⟩ := vals2 rt
              rename_i u0 _
              cases (show u0 = Value.ref l0 from r)
              cases (show u1 = Value.ref l1 from r')
              cases (show u2 = Value.ref l2 from r2)
              exact pie3 I1 hq q
end IP

set_option maxHeartbeats 4000000
/-! IP19: what is walked. -/
namespace IP
open PySem PySem.Spec PyProof.Rows L2
def YV (K : PySem.W.Frag) (g : GS) (items : List Val) : Nat → Hp → V → Hp → Prop := fun i H x H' => ∃ v, items[i]? = some v ∧ ∀ g1 st, StoreR K g1 st H → Same g.B g1.B → (∃ l, g1.ad = g.ad ++ l) → ∃ g2, StoreR K g2 st H' ∧ Step g1 H g2 H' ∧ RV K g2 x v
def relS (K : PySem.W.Frag) (g : GS) (J : It) (items : List Val) : Prop := Walk J items.length (fun H => Same g.B H) (YV K g items)
abbrev tS (K : PySem.W.Frag) (W : WX) (m : IP.Env → M (List Val)) : TI := tM K (relS K) W m
theorem PI_imp {X : Cx} {tg e : Expr} {t t' : TI} (h : PI X tg e t) (f : ∀ σ H Q, t' σ H Q → t σ H Q) : PI X tg e t' := ⟨fun pins s σ H Q I q => h.run pins s σ H Q I (f σ H Q q)⟩
theorem PI_no {X : Cx} {tg e : Expr} {t' : TI} (f : ∀ σ H Q, ¬ t' σ H Q) : PI X tg e t' := ⟨fun pins s σ H Q I q => (f σ H Q q).elim⟩
section
variable {X : Cx} {W : WX} {K : PySem.W.Frag} {g : GS}
theorem PI_to {tg e : Expr} {m m' : IP.Env → M (List Val)} (h : PI X tg e (tS X.K W m)) (q : ∀ env, m' env = m env) : PI X tg e (tS X.K W m') := by
  have : m' = m := funext q
  rw [this]
  exact h
theorem PI_bad {tg e : Expr} : PI X tg e (tS X.K W fun _ => bad) := PI_no fun σ H Q h => tM_bad h
/-- items that stand in the heap already -/
theorem yv_here {J : It} {n : Nat} {items : List Val} {xs : List V} {G' : Hp → Prop} (w : Walk J xs.length G' (YAt xs)) (hG : ∀ H, Same g.B H → G' H) (r : RVs K g xs items) : relS K g J items := by
  have hl : xs.length = items.length := Paired.length r
  unfold relS
  rw [← hl]
  refine w.mono hG fun i H x H' hi hs ⟨e, hx⟩ => ?_
  subst e
  have hi' : i < items.length := by omega
  obtain ⟨y, e1, r1⟩ := paired_get r (List.getElem?_eq_getElem hi')
  rw [hx] at e1
  cases e1
  exact ⟨_, List.getElem?_eq_getElem hi', fun g1 st S sb p => ⟨g1, S, .refl _ _, r1.mono sb p⟩⟩
theorem RDs.vals {B : Hp} {ad : List Addr} : ∀ {xs : List V} {ds : List DV}, RDs K B xs ds → RVs K ⟨B, ad⟩ xs (ds.map Val.d)
  | _, _, .nil => .nil
  | _, _, .cons h t => .cons h (RDs.vals t)
theorem ints_vals {g : GS} : ∀ {ns : List Int}, RVs K g (ns.map V.int) (ns.map fun n => Val.d (.int n))
  | [] => .nil
  | n :: ns => .cons (.int n) ints_vals
/-- a list or a tuple, walked -/
def iSeq (K : PySem.W.Frag) (tl : TE) : TI := fun σ H R => tl σ H fun x H1 => ∃ a, x = .ref a ∧ (((∃ xs, SqL K H1 a xs) ∧ R (Itl K a) H1) ∨ ((∃ xs, SqT K H1 a xs) ∧ R (Itt K a) H1))
theorem pi_seq {tg l : Expr} {tl : TE} (hl : PE X l tl) : PI X tg l (iSeq X.K tl) := by
  refine ⟨fun pins s σ H R I h => ?_⟩
  refine thn (hl.run pins s σ H _ I h) fun v s1 ⟨x, H1, I1, r1, q1⟩ => ?_
  obtain ⟨a, e, q⟩ := q1
  subst e
  rcases q with ⟨⟨xs, hq⟩, q⟩ | ⟨⟨xs, hq⟩, q⟩
  · exact (show wpAny (model X.prog X.w) X.A (pyIter v) (PIE X pins σ tg R) X.xe s1 from by
      cases r1
      obtain ⟨its, rv, p, hz⟩ := I1.list hq
      refine wpAny_pyIter_list p.isList ?_
      refine ⟨s1.heap.objs.size, [s1.heap.objs.size], _, _, H1, rfl, I1.kept (t' := s1.toks) fun b o e => Heap.get?_push_of_some _ e, turn_list a _, ⟨_, Heap.get?_push_size _ rfl, rfl, rfl⟩, fun b hb => ?_, q⟩
      have e : b = s1.heap.objs.size := by simpa using hb
      subst e
      exact I1.fpOk (Nat.le_refl _) (I1.hok.fresh (Nat.le_refl _)))
  · cases r1
    obtain ⟨its, rv, p, hz⟩ := I1.tuple hq
    refine wpAny_pyIter_tuple (show s1.heap.IsTuple a its.toArray from p) ?_
    refine ⟨s1.heap.objs.size, [s1.heap.objs.size], _, _, H1, rfl, I1.kept (t' := s1.toks) fun b o e => Heap.get?_push_of_some _ e, turn_tuple a _, ⟨_, Heap.get?_push_size _ rfl, rfl, rfl⟩, fun b hb => ?_, q⟩
    have e : b = s1.heap.objs.size := by simpa using hb
    subst e
    exact I1.fpOk (Nat.le_refl _) (I1.hok.fresh (Nat.le_refl _))
theorem s_gen {tg e : Expr} {m : IP.Env → M Val} (he : PE X e (tE X.K W m)) : PI X tg e (tS X.K W fun env => do genS (← m env)) := by
  refine PI_imp (pi_seq he) fun σ H Q h => ?_
  refine tM_imp (tM_bind (rel := RV X.K) h) fun x H1 ⟨g, env, v, st, S, R, r, q⟩ => ?_
  cases v with
  | d dv =>
    cases dv with
    | lst ds =>
      obtain ⟨a, xs, rfl, hB, hr⟩ := RD.lst_inv r
      exact ⟨a, rfl, .inl ⟨⟨xs, .of (S.sub _ _ hB)⟩, Out.pure q S (yv_here (n := 0) walk_list (fun H s => .of (s _ _ hB)) hr.vals)⟩⟩
    | tup ds =>
      obtain ⟨a, xs, rfl, hB, hr⟩ := RD.tup_inv r
      exact ⟨a, rfl, .inr ⟨⟨xs, S.sqT hB⟩, Out.pure q S (yv_here (n := 0) walk_tup (fun H s => sqT_mono s hB) hr.vals)⟩⟩
    | _ => exact q.elim
  | scr ns =>
    obtain ⟨a, rfl, hB⟩ := r
    exact ⟨a, rfl, .inl ⟨⟨_, S.sub.seq hB⟩, Out.pure q S (yv_here (n := 0) walk_list (fun H s => s.seq hB) ints_vals)⟩⟩
  | _ => exact q.elim
theorem range_rel {lo : Int} {n : Nat} {g : GS} : relS K g (Itr lo n) (rangeV lo n) := by
  have hl : (rangeV lo n).length = n := by simp [rangeV]
  unfold relS
  rw [hl]
  refine walk_range.mono (fun _ _ => trivial) fun i H x H' hi _ ⟨e, hx⟩ => ?_
  subst e hx
  exact ⟨.d (.int (lo + i)), by simp [rangeV, hi], fun g1 st S _ _ => ⟨g1, S, .refl _ _, .int _⟩⟩
theorem int2 {g : GS} {xs : List V} {ws : List Val} (r : RVs K g xs ws) : ∀ {i : Int}, ws = [.d (.int i)] → xs = [.int i] := by
  intro i e
  subst e
  obtain ⟨x, rfl, h⟩ := r.one
  rw [show x = .int i from RD.int_inv h]
theorem int3 {g : GS} {xs : List V} {ws : List Val} (r : RVs K g xs ws) : ∀ {i j : Int}, ws = [.d (.int i), .d (.int j)] → xs = [.int i, .int j] := by
  intro i j e
  subst e
  obtain ⟨x, y, rfl, h, h'⟩ := r.two
  rw [show x = .int i from RD.int_inv h, show y = .int j from RD.int_inv h']
theorem small_of {i : Int} (h : small62 i = true) : -(2 ^ 62) ≤ i ∧ i < 2 ^ 62 := by
  unfold small62 at h
  simpa using h
theorem range_ok {C : XK} {ws : List Val} {st : Store} {H : Hp} {Q : It → Hp → Prop} (h : Out K (relS K) C g H (rangeS ws st) Q) :
    (∃ j, ws = [.d (.int j)] ∧ small62 j = true ∧ Out K (relS K) C g H (.ok (rangeV 0 j.toNat) st) Q) ∨ (∃ i j, ws = [.d (.int i), .d (.int j)] ∧ small62 i = true ∧ small62 j = true ∧ Out K (relS K) C g H (.ok (rangeV i (j - i).toNat) st) Q) := by
  obtain ⟨v, e, q⟩ := liftO_ok h
  unfold rangeP at e
  split at e
  · rename_i j
    split at e
    · rename_i hs
      cases e
      exact .inl ⟨j, rfl, hs, q⟩
    · cases e
  · rename_i i j
    split at e
    · rename_i hs
      cases e
      simp only [Bool.and_eq_true] at hs
      exact .inr ⟨i, j, rfl, hs.1, hs.2, q⟩
    · cases e
  · cases e
theorem star_two {a b : Expr} {env : PySem.Env} (h : [a, b].any isStar = false) : starEach [a, b] env = [(false, eval a env), (false, eval b env)] ∧ starEach [b] env = [(false, eval b env)] := by
  simp only [List.any_cons, Bool.or_eq_false_iff] at h
  have h2 : starEach [b] env = [(false, eval b env)] := by rw [star_cons h.2.1]; rfl
  exact ⟨by rw [star_cons h.1, h2], h2⟩
theorem paired_nil {α β : Type} {F : α → β → Prop} {l : List α} (h : Paired F l []) : l = [] := by
  cases h
  rfl
theorem s_range {N : List Str} {tg : Expr} {mf : Expr → IP.Env → M Val} {p pos : Pos} {es : List Expr} (hg : Gl X "range") (hm : X.mg "range" = none) (hl : es.length = 1 ∨ es.length = 2) (hs : es.any isStar = false) (he : ∀ e ∈ es, PE X e (tE X.K W (mf e))) :
    PI X tg (.Call (.Name "range" p) es [] pos) (tS X.K W fun env => do rangeS (← evL0 (fun e => mf e env) es)) := by
  match es, hl, hs, he with
  | [a], _, hs, he =>
    have hs' := hs
    simp only [List.any_cons, Bool.or_eq_false_iff] at hs'
    refine PI_imp (pi_range1 hg hm (s_args he hs) (by rw [star_cons hs'.1]; rfl)) fun σ H Q h => ?_
    obtain ⟨g, env, st, S, R, h⟩ := h
    refine ⟨g, env, st, S, R, Out.imp (Out.bindE (rel := RVs X.K) h) fun xs H1 ⟨g1, ws, st1, e9, S1, T1, r, q⟩ => ?_⟩
    have hlen := evL0_len e9
    rcases range_ok q with ⟨j, rfl, h1, q⟩ | ⟨i, j, rfl, _⟩
    · obtain ⟨h2, h3⟩ := small_of h1
      exact ⟨j, int2 r rfl, h2, h3, Out.pure q S1 range_rel⟩
    · cases hlen
  | [a, b], _, hs, he =>
    refine PI_imp (pi_range2 hg hm (s_args he hs) (star_two hs).1 (star_two hs).2) fun σ H Q h => ?_
    obtain ⟨g, env, st, S, R, h⟩ := h
    refine ⟨g, env, st, S, R, Out.imp (Out.bindE (rel := RVs X.K) h) fun xs H1 ⟨g1, ws, st1, e9, S1, T1, r, q⟩ => ?_⟩
    have hlen := evL0_len e9
    rcases range_ok q with ⟨j, rfl, h1, q⟩ | ⟨i, j, rfl, h1, h4, q⟩
    · cases hlen
    · obtain ⟨h2, h3⟩ := small_of h1
      obtain ⟨h5, h6⟩ := small_of h4
      exact ⟨i, j, int3 r rfl, ⟨h2, h3, h5, h6⟩, Out.pure q S1 range_rel⟩
  | [], hl, _, _ => exact absurd hl (by simp)
  | _ :: _ :: _ :: _, hl, _, _ => exact absurd hl (by simp)
/-! ### zip -/
theorem dseqs_ok : ∀ {xs : List V} {ws : List Val} {dss : List (List DV)}, RVs K g xs ws → dseqs ws = some dss → ∃ (as : List (Addr × Bool)) (xss : List (List V)), xs = as.map (fun a => V.ref a.1) ∧ Paired (fun (ys : List V) ds => RDs K g.B ys ds) xss dss ∧
    ∀ H, Same g.B H → Paired (Sq K H) as xss
  | _, [], dss, .nil, e => by
    cases e
    exact ⟨[], [], rfl, .nil, fun _ _ => .nil⟩
  | x :: xs, w :: ws, dss, .cons h t, e => by
    unfold dseqs at e
    cases q : dseqD w with
    | none =>
      rw [q] at e
      cases e
    | some ds =>
      rw [q] at e
      dsimp only at e
      cases q2 : dseqs ws with
      | none =>
        rw [q2] at e
        cases e
      | some r =>
        rw [q2] at e
        cases e
        obtain ⟨as, xss, e1, p1, p2⟩ := dseqs_ok t q2
        unfold dseqD at q
        split at q
        · cases q
          obtain ⟨a, ys, rfl, hB, hr⟩ := RD.lst_inv h
          exact ⟨(a, true) :: as, ys :: xss, by rw [e1]; rfl, .cons hr p1, fun H s => .cons (show SqL K H a ys from .of (s _ _ hB)) (p2 H s)⟩
        · cases q
          obtain ⟨a, ys, rfl, hB, hr⟩ := RD.tup_inv h
          exact ⟨(a, false) :: as, ys :: xss, by rw [e1]; rfl, .cons hr p1, fun H s => .cons (show SqT K H a ys from sqT_mono s hB) (p2 H s)⟩
        · cases q
theorem minL_lt : ∀ {dss : List (List DV)} {i : Nat}, i < minL dss → ∀ ds ∈ dss, i < ds.length
  | [], i, h, ds, m => by cases m
  | [x], i, h, ds, m => by
    simp at m
    rw [m]
    exact h
  | x :: y :: r, i, h, ds, m => by
    unfold minL at h
    rcases List.mem_cons.mp m with m | m
    · rw [m]
      omega
    · exact minL_lt (dss := y :: r) (by omega) ds m
theorem minL_le : ∀ {dss : List (List DV)}, dss ≠ [] → ∃ ds ∈ dss, ds.length ≤ minL dss
  | [], h => absurd rfl h
  | [x], _ => ⟨x, by simp, Nat.le_refl _⟩
  | x :: y :: r, _ => by
    obtain ⟨ds, m, hl⟩ := minL_le (dss := y :: r) (by simp)
    unfold minL
    by_cases q : x.length ≤ minL (y :: r)
    · exact ⟨x, by simp, by omega⟩
    · exact ⟨ds, List.mem_cons_of_mem _ m, by omega⟩
theorem paired_memL {α β : Type} {F : α → β → Prop} : ∀ {l₁ : List α} {l₂ : List β}, Paired F l₁ l₂ → ∀ x ∈ l₁, ∃ y ∈ l₂, F x y
  | _, _, .nil, x, m => by cases m
  | _, _, .cons h t, x, m => by
    rcases List.mem_cons.mp m with m | m
    · subst m
      exact ⟨_, List.mem_cons_self, h⟩
    · obtain ⟨y, m2, h2⟩ := paired_memL t x m
      exact ⟨y, List.mem_cons_of_mem _ m2, h2⟩
theorem paired_memR {α β : Type} {F : α → β → Prop} : ∀ {l₁ : List α} {l₂ : List β}, Paired F l₁ l₂ → ∀ y ∈ l₂, ∃ x ∈ l₁, F x y
  | _, _, .nil, x, m => by cases m
  | _, _, .cons h t, x, m => by
    rcases List.mem_cons.mp m with m | m
    · subst m
      exact ⟨_, List.mem_cons_self, h⟩
    · obtain ⟨y, m2, h2⟩ := paired_memR t x m
      exact ⟨y, List.mem_cons_of_mem _ m2, h2⟩
theorem zip_row {B : Hp} {i : Nat} : ∀ {xss : List (List V)} {dss : List (List DV)} {ys : List V}, Paired (fun (ys : List V) ds => RDs K B ys ds) xss dss → Paired (fun (xs : List V) y => xs[i]? = some y) xss ys → RDs K B ys (zipI dss i)
  | _, _, _, .nil, .nil => .nil
  | _, _, _, .cons (b := ds) h t, .cons (b := y) h' t' => by
    obtain ⟨d, e, r⟩ := h.getV h'
    refine .cons ?_ (zip_row t t')
    have e2 : ds.getD i .non = d := by rw [List.getD_eq_getElem?_getD, e]; rfl
    show RD K B y (ds.getD i .non)
    rw [e2]
    exact r
theorem s_zip {mf : Expr → IP.Env → M Val} {p pos tpos : Pos} {es elts : List Expr} {kk : Nat} (hg : Gl X "zip") (hm : X.mg "zip" = none) (hl : es.length = 2 ∨ es.length = 3) (hs : es.any isStar = false) (he : ∀ e ∈ es, PE X e (tE X.K W (mf e))) :
    PI X (.Tuple elts kk tpos) (.Call (.Name "zip" p) es [] pos) (tS X.K W fun env => do zipS (← evL0 (fun e => mf e env) es)) := by
  refine PI_imp (pi_zipN hg hm (s_args he hs) hl hs) fun σ H Q h => ?_
  obtain ⟨g, env, st, S, R, h⟩ := h
  refine ⟨g, env, st, S, R, Out.imp (Out.bindE (rel := RVs X.K) h) fun xs H1 ⟨g1, ws, st1, e9, S1, T1, r, q⟩ => ?_⟩
  have hlen := evL0_len e9
  obtain ⟨items, e, q⟩ := liftO_ok q
  cases q2 : dseqs ws with
  | none =>
    rw [q2] at e
    cases e
  | some dss =>
    rw [q2] at e
    cases e
    obtain ⟨as, xss, e1, p1, p2⟩ := dseqs_ok r q2
    have hla : as.length = 2 ∨ as.length = 3 := by
      have h3 : xs.length = ws.length := Paired.length r
      rw [e1] at h3
      simp at h3
      omega
    refine ⟨as, xss, e1, p2 H1 S1.sub, hla, Out.pure q S1 ?_⟩
    have hn : (zipN dss).length = minL dss := by simp [zipN]
    have hne : dss ≠ [] := fun z => by
      subst z
      have h1 := paired_nil p1
      subst h1
      have h2 := paired_nil (p2 H1 S1.sub)
      subst h2
      have h3 : xs.length = ws.length := Paired.length r
      rw [e1] at h3
      simp at h3
      rw [← h3] at hlen
      rcases hl with hl | hl <;> omega
    unfold relS
    rw [hn]
    refine ⟨fun i H' hi s => ⟨xss, p2 H' s, fun ys m => ?_⟩, fun H' s => ⟨xss, p2 H' s, ?_⟩, fun i H' x H'' hi s y => ?_⟩
    · obtain ⟨ds, m2, hr⟩ := paired_memL p1 ys m
      rw [hr.length]
      exact minL_lt hi ds m2
    · obtain ⟨ds, m, hle⟩ := minL_le hne
      obtain ⟨ys, m2, hr⟩ := paired_memR p1 ds m
      exact ⟨ys, m2, by rw [hr.length]; exact hle⟩
    · obtain ⟨T, ys, rfl, hT, rfl, hy⟩ := y
      refine ⟨.d (.tup (zipI dss i)), by simp [zipN, hi], fun g2 st2 S2 sb p => ?_⟩
      obtain ⟨S3, T3⟩ := S2.alloc (.tup ys) hT
      exact ⟨_, S3, T3, RD.tup (.of upd_self) (((zip_row p1 (hy xss (p2 H' s))).mono sb).mono T3.sub)⟩
end
section
variable {G : Glob} {call : Key2 → List Val → M Val} {k : Nat} {N : List Str} {sc : Scope} {W : WX} {X : Cx}
theorem kind_ok {tg e : Expr} {n : Nat} {args : List Expr} (h : srcKind G sc tg e = (n, args)) :
    (n = 1 ∧ ∃ p pos, e = .Call (.Name "range" p) args [] pos ∧ isGl sc "range" = true ∧ ("range" : Str) ∈ G.free ∧ (args.length = 1 ∨ args.length = 2) ∧ args.any isStar = false) ∨
    (n = 2 ∧ ∃ p pos elts kk tpos, tg = .Tuple elts kk tpos ∧ e = .Call (.Name "zip" p) args [] pos ∧ isGl sc "zip" = true ∧ ("zip" : Str) ∈ G.free ∧ (args.length = 2 ∨ args.length = 3) ∧ args.any isStar = false) ∨ n = 0 := by
  unfold srcKind at h
  split at h
  · rename_i x p as pos
    split at h
    · rename_i h1
      simp only [Bool.and_eq_true, decide_eq_true_eq, Bool.not_eq_true'] at h1
      split at h
      · rename_i h2
        simp only [Bool.and_eq_true, decide_eq_true_eq, Bool.or_eq_true, beq_iff_eq] at h2
        cases h
        obtain ⟨rfl, h2⟩ := h2
        exact .inl ⟨rfl, p, pos, rfl, h1.1.1, h1.1.2, h2, h1.2⟩
      · split at h
        · rename_i h2
          simp only [Bool.and_eq_true, decide_eq_true_eq, Bool.or_eq_true, beq_iff_eq] at h2
          cases h
          obtain ⟨⟨rfl, h2⟩, h3⟩ := h2
          cases tg <;> first | (cases h3; done) | skip
          exact .inr (.inl ⟨rfl, p, pos, _, _, _, rfl, rfl, h1.1.1, h1.1.2, h2, h1.2⟩)
        · cases h
          exact .inr (.inr rfl)
    · cases h
      exact .inr (.inr rfl)
  · cases h
    exact .inr (.inr rfl)
theorem fold_ok {e : Expr} {env : PySem.Env} (h : isSetE e = false) : ∀ x, foldedSetIterable e env x = pure x := by
  intro x
  unfold foldedSetIterable
  cases e <;> first | (cases h; done) | rfl
/-- what is walked: mf holds of the parts -/
theorem s_src (C : CtxE G call k N sc W X) {mf : Expr → IP.Env → M Val} {tg e : Expr} (he : PE X e (tE X.K W (mf e))) (ha : ∀ f args kws pos, e = .Call f args kws pos → ∀ a ∈ args, PE X a (tE X.K W (mf a))) :
    PI X tg e (tS X.K W fun env => srcOf G sc (fun e => mf e env) tg e) := by
  by_cases h0 : isSetE e = true
  · exact PI_to PI_bad fun env => by unfold srcOf; rw [if_pos h0]
  cases hk : srcKind G sc tg e with
  | mk n args =>
    rcases kind_ok hk with ⟨rfl, p, pos, rfl, h1, h2, h3, h4⟩ | ⟨rfl, p, pos, elts, kk, tpos, rfl, rfl, h1, h2, h3, h4⟩ | rfl
    · refine PI_to (s_range (N := N) (mf := mf) (gl_ok C h1) (C.glob.free _ h2) h3 h4 (ha _ _ _ _ rfl)) fun env => ?_
      unfold srcOf
      rw [if_neg h0, hk] <;> rfl
    · refine PI_to (s_zip (mf := mf) (gl_ok C h1) (C.glob.free _ h2) h3 h4 (ha _ _ _ _ rfl)) fun env => ?_
      unfold srcOf
      rw [if_neg h0, hk] <;> rfl
    · refine PI_to (s_gen he) fun env => ?_
      unfold srcOf
      rw [if_neg h0, hk] <;> rfl
end
end IP

set_option maxHeartbeats 4000000
/-! IP20: targets; comprehensions. -/
namespace IP
open PySem PySem.Spec PyProof.Rows L2
def W0 : WX := fun _ _ _ _ => False
section
variable {K : PySem.W.Frag} {g : GS} {env : IP.Env} {σ : L2.St}
theorem EnvR.set {i : Nat} {v : Val} {x : V} (R : EnvR K g env σ) (r : RV K g x v) : EnvR K g (env.set i (some v)) (σ.set i (some x)) := by
  refine ⟨by rw [List.length_set, List.length_set]; exact R.1, fun j u e => ?_⟩
  by_cases h : i = j
  · subst h
    by_cases hl : i < env.length
    · rw [List.getElem?_set_self hl] at e
      cases e
      exact ⟨x, List.getElem?_set_self (by rw [← R.1]; exact hl), r⟩
    · rw [List.getElem?_eq_none (by rw [List.length_set]; omega)] at e
      cases e
  · rw [List.getElem?_set_ne h] at e
    obtain ⟨y, e1, r1⟩ := R.2 j u e
    exact ⟨y, by rw [List.getElem?_set_ne h]; exact e1, r1⟩
theorem EnvR.unset {i : Nat} (R : EnvR K g env σ) : EnvR K g (env.set i none) (σ.set i none) := by
  refine ⟨by rw [List.length_set, List.length_set]; exact R.1, fun j u e => ?_⟩
  by_cases h : i = j
  · subst h
    by_cases hl : i < env.length
    · rw [List.getElem?_set_self hl] at e
      cases e
    · rw [List.getElem?_eq_none (by rw [List.length_set]; omega)] at e
      cases e
  · rw [List.getElem?_set_ne h] at e
    obtain ⟨y, e1, r1⟩ := R.2 j u e
    exact ⟨y, by rw [List.getElem?_set_ne h]; exact e1, r1⟩
theorem EnvR.wipe (R : EnvR K g env σ) : ∀ vs : List Nat, EnvR K g (wipeE env vs) (L2.wipe σ vs)
  | [] => R
  | v :: vs => (EnvR.wipe R vs).unset
theorem wipe_get : ∀ {vs : List Nat} {σ : L2.St} {i : Nat}, (L2.wipe σ vs)[i]? = if i ∈ vs ∧ i < σ.length then some none else σ[i]?
  | [], σ, i => by simp [L2.wipe]
  | v :: vs, σ, i => by
    unfold L2.wipe
    by_cases h : v = i
    · subst h
      by_cases hl : v < σ.length
      · rw [List.getElem?_set_self (by rw [wipe_length]; exact hl), if_pos ⟨by simp, hl⟩]
      · rw [List.getElem?_eq_none (by rw [List.length_set, wipe_length]; omega), if_neg (by omega), List.getElem?_eq_none (by omega)]
    · rw [List.getElem?_set_ne h, wipe_get]
      have : i ∈ v :: vs ↔ i ∈ vs := by simp [Ne.symm h]
      simp only [this]
theorem wipe_set {vs : List Nat} {σ : L2.St} {i : Nat} {x : Option V} (h : i ∈ vs) : L2.wipe (σ.set i x) vs = L2.wipe σ vs := by
  apply List.ext_getElem?
  intro j
  rw [wipe_get, wipe_get, List.length_set]
  by_cases hj : j ∈ vs ∧ j < σ.length
  · rw [if_pos hj, if_pos hj]
  · rw [if_neg hj, if_neg hj]
    by_cases e : i = j
    · subst e
      have hl : ¬ i < σ.length := fun z => hj ⟨h, z⟩
      rw [List.getElem?_eq_none (by rw [List.length_set]; omega), List.getElem?_eq_none (by omega)]
    · rw [List.getElem?_set_ne e]
theorem wipe_wipe {vs : List Nat} {σ : L2.St} : L2.wipe (L2.wipe σ vs) vs = L2.wipe σ vs := by
  apply List.ext_getElem?
  intro j
  rw [wipe_get, wipe_length]
  by_cases hj : j ∈ vs ∧ j < σ.length
  · rw [if_pos hj, wipe_get, if_pos hj]
  · rw [if_neg hj]
/-! ### targets -/
/-- the slots that a target writes -/
inductive Writes (N : List Str) (wr : Str → Bool) : Expr → List Nat → Prop
  | name {x : Str} {p : Pos} {i : Nat} : wr x = true → idx N x = some i → Writes N wr (.Name x p) [i]
end
/-- what a target's store does -/
def gI (K : PySem.W.Frag) (N : List Str) (wr : Str → Bool) (tg : Expr) : TG := fun x σ H Q => ∃ g env v env', EnvR K g env σ ∧ RV K g x v ∧ Same g.B H ∧ bindTg wr N tg v env = some env' ∧ ∀ σ', EnvR K g env' σ' → (∀ vs : List Nat, (∀ y i, wr y = true → idx N y = some i → i ∈ vs) → L2.wipe σ' vs = L2.wipe σ vs) → Q σ' H
theorem PG_imp {X : Cx} {e : Expr} {t t' : TG} (h : PG X e t) (f : ∀ x σ H Q, t' x σ H Q → t x σ H Q) : PG X e t' := ⟨fun pins s σ H v u Q I r q => h.run pins s σ H v u Q I r (f v σ H Q q)⟩
theorem PG_no {X : Cx} {e : Expr} {t' : TG} (f : ∀ x σ H Q, ¬ t' x σ H Q) : PG X e t' := ⟨fun pins s σ H v u Q I r q => (f v σ H Q q).elim⟩
section
variable {X : Cx} {N : List Str} {wr : Str → Bool}
/-- where a name may be written -/
def WrOk (X : Cx) (wr : Str → Bool) : Prop := ∀ x, wr x = true → Loc X.env.scope x ∧ (X.fn x = true ∨ X.env.scope.names.lookup x = some .local)
theorem assign_names {env : PySem.Env} : ∀ {es : List Expr}, (∀ e ∈ es, ∃ x p, e = .Name x p) → (assignEach es env).length = es.length ∧ (assignEach es env).findIdx? (·.1) = none ∧ (assignEach es env).map (·.2) = es.map fun e => assign e env
  | [], _ => ⟨rfl, rfl, rfl⟩
  | e :: es, h => by
    obtain ⟨x, p, rfl⟩ := h e List.mem_cons_self
    obtain ⟨h1, h2, h3⟩ := assign_names (env := env) (es := es) fun e m => h e (List.mem_cons_of_mem _ m)
    refine ⟨?_, ?_, ?_⟩
    · show (assignEach es env).length + 1 = es.length + 1
      rw [h1]
    · show ((false, assign (.Name x p) env) :: assignEach es env).findIdx? (·.1) = none
      rw [List.findIdx?_cons, h2]
      rfl
    · show assign (.Name x p) env :: (assignEach es env).map (·.2) = _
      rw [h3]
      rfl
def gsI (K : PySem.W.Frag) (N : List Str) (wr : Str → Bool) (es : List Expr) : TGs := fun xs σ H Q => ∃ g env ds env', EnvR K g env σ ∧ RDs K g.B xs ds ∧ bindNames wr N es ds env = some env' ∧ ∀ σ', EnvR K g env' σ' → (∀ vs : List Nat, (∀ y i, wr y = true → idx N y = some i → i ∈ vs) → L2.wipe σ' vs = L2.wipe σ vs) → Q σ' H
theorem pgs_names (hN : X.N = N) (nd : X.N.Nodup) (hw : WrOk X wr) : ∀ {es : List Expr}, (∀ e ∈ es, ∃ x p, e = .Name x p) → PGs X es (gsI X.K N wr es)
  | [], _ => ⟨fun pins s σ H vs us Q I r h => by
    obtain ⟨g, env, ds, env', R, rd, hb, q⟩ := h
    cases ds with
    | cons d ds => cases hb
    | nil =>
      cases hb
      cases rd
      exact pgs_nil.run pins s σ H [] us Q I r ⟨rfl, q σ R fun _ _ => rfl⟩⟩
  | e :: es, hes => by
    obtain ⟨x, p, rfl⟩ := hes _ List.mem_cons_self
    have ih := pgs_names hN nd hw (es := es) fun e m => hes e (List.mem_cons_of_mem _ m)
    by_cases hx : wr x = true
    case neg =>
      refine ⟨fun pins s σ H vs us Q I r h => ?_⟩
      obtain ⟨g, env, ds, env', R, rd, hb, q⟩ := h
      cases ds with
      | nil => cases hb
      | cons d ds =>
        exfalso
        unfold bindNames at hb
        rw [if_neg hx] at hb
        cases hb
    cases hi : idx N x with
    | none =>
      refine ⟨fun pins s σ H vs us Q I r h => ?_⟩
      obtain ⟨g, env, ds, env', R, rd, hb, q⟩ := h
      cases ds with
      | nil => cases hb
      | cons d ds =>
        exfalso
        unfold bindNames at hb
        rw [if_pos hx, hi] at hb
        cases hb
    | some i =>
      obtain ⟨h1, h2⟩ := hw x hx
      refine ⟨fun pins s σ H vs us Q I r h => (pgs_cons (pg_name nd (by rw [hN]; exact idx_ok hi) h1 h2) ih rfl).run pins s σ H vs us Q I r ?_⟩
      obtain ⟨g, env, ds, env', R, rd, hb, q⟩ := h
      cases ds with
      | nil => cases hb
      | cons d ds =>
        unfold bindNames at hb
        rw [if_pos hx, hi] at hb
        cases rd with
        | cons r1 rt =>
          refine ⟨_, _, rfl, g, env.set i (some (.d d)), ds, env', R.set r1, rt, hb, fun σ' R' hσ => q σ' R' fun vs hv => ?_⟩
          rw [hσ vs hv, wipe_set (hv x i hx hi)]
theorem bindTg_name {x : Str} {p : Pos} {v : Val} {env env' : IP.Env} (h : bindTg wr N (.Name x p) v env = some env') : wr x = true ∧ ∃ i, idx N x = some i ∧ env' = env.set i (some v) := by
  have h : (if wr x = true then (match idx N x with
    | some i => some (env.set i (some v))
    | none => none) else none) = some env' := h
  by_cases hx : wr x = true
  · rw [if_pos hx] at h
    cases hi : idx N x with
    | none =>
      rw [hi] at h
      cases h
    | some i =>
      rw [hi] at h
      cases h
      exact ⟨hx, i, rfl, rfl⟩
  · rw [if_neg hx] at h
    cases h
theorem bindTg_tup {es : List Expr} {k : Nat} {p : Pos} {v : Val} {env env' : IP.Env} (h : bindTg wr N (.Tuple es k p) v env = some env') : ∃ ds, v = .d (.tup ds) ∧ bindNames wr N es ds env = some env' := by
  cases v with
  | d dv =>
    cases dv with
    | tup ds => exact ⟨ds, rfl, h⟩
    | _ => cases h
  | _ => cases h
theorem bindNames_ok : ∀ {es : List Expr} {ds : List DV} {env env' : IP.Env}, bindNames wr N es ds env = some env' → es.length = ds.length ∧ ∀ e ∈ es, ∃ x p, e = .Name x p
  | [], [], env, env', h => ⟨rfl, fun e m => by cases m⟩
  | [], _ :: _, env, env', h => by cases h
  | .Name x p :: es, [], env, env', h => by cases h
  | .Name x p :: es, d :: ds, env, env', h => by
    unfold bindNames at h
    split at h <;> first | (cases h; done) | skip
    split at h <;> first | (cases h; done) | skip
    obtain ⟨h1, h2⟩ := bindNames_ok h
    refine ⟨by simp [h1], fun e m => ?_⟩
    rcases List.mem_cons.mp m with m | m
    · exact ⟨x, p, m⟩
    · exact h2 e m
  | .BoolOp _ _ _ :: _, _, _, _, h => by cases h
  | .NamedExpr _ _ _ :: _, _, _, _, h => by cases h
  | .BinOp _ _ _ _ :: _, _, _, _, h => by cases h
  | .UnaryOp _ _ _ :: _, _, _, _, h => by cases h
theorem s_tg (hN : X.N = N) (nd : X.N.Nodup) (hc : X.calm = true) (hw : WrOk X wr) {tg : Expr} : PG X tg (gI X.K N wr tg) := by
  refine ⟨fun pins s σ H y u Q I ru h => ?_⟩
  obtain ⟨g, env, v, env', R, r, sb, hb, q⟩ := h
  cases tg with
  | Name x p =>
    obtain ⟨hx, i, hi, rfl⟩ := bindTg_name hb
    obtain ⟨h1, h2⟩ := hw x hx
    exact (pg_name nd (by rw [hN]; exact idx_ok hi) h1 h2).run pins s σ H y u Q I ru (q _ (R.set r) fun vs hv => wipe_set (hv x i hx hi))
  | Tuple es k p =>
    obtain ⟨ds, rfl, hb⟩ := bindTg_tup hb
    obtain ⟨hl, hes⟩ := bindNames_ok hb
    obtain ⟨a1, a2, a3⟩ := assign_names (env := X.env) hes
    obtain ⟨a, xs, rfl, hT, hr⟩ := RD.tup_inv r
    exact (pg_tup hc (pgs_names hN nd hw hes) a1 a2).run pins s σ H _ u Q I ru ⟨a, xs, rfl, sqT_mono sb hT, by rw [hr.length, hl], g, env, ds, env', R, hr, hb, q⟩
  | _ => cases hb
end
end IP

set_option maxHeartbeats 4000000
/-! IP21: list comprehensions. -/
namespace IP
open PySem PySem.Spec PyProof.Rows L2
section
variable {K : PySem.W.Frag} {g g' g1 : GS} {H H' H1 : Hp} {st st' : Store} {D : Addr} {o : HO}
theorem Step.away (T : Step g H g' H') (h1 : D ∉ g.ad) (h2 : g.B D = none) (h3 : H D = some o) : D ∉ g'.ad ∧ g'.B D = none ∧ H' D = some o := by
  refine ⟨fun m => ?_, ?_, T.keep _ _ h3 h1⟩
  · rcases T.newA D m with z | z
    · exact h1 z
    · rw [h3] at z
      cases z
  · cases e : g'.B D with
    | none => rfl
    | some u =>
      rcases T.newB D (by rw [e]; simp) with z | z
      · exact absurd h2 z
      · rw [h3] at z
        cases z
theorem StoreR.other (o : HO) (S : StoreR K g st H) (h1 : D ∉ g.ad) (h2 : g.B D = none) : StoreR K g st (upd H D o) where
  sub := fun b u e => by
    rw [upd_ne (ne_of_none e h2)]
    exact S.sub b u e
  off := S.off
  nd := S.nd
  cells := paired_mem S.cells fun a c m q => q.mono (g := g) (g' := g) (Same.refl _) ⟨[], by simp⟩ (upd_ne fun z => h1 (by rw [← z]; exact m))
theorem Step.other (o : HO) (T : Step g H g' H') (hD : H D = none) : Step g H g' (upd H' D o) where
  sub := T.sub
  pre := T.pre
  newB := T.newB
  newA := T.newA
  keep := fun a u e n => by
    rw [upd_ne (ne_of_none e hD)]
    exact T.keep a u e n
  dom := fun a e => by
    by_cases q : a = D
    · rw [q, upd_same]
      simp
    · rw [upd_ne q]
      exact T.dom a e
/-- a list that stands becomes a cell -/
theorem StoreR.cellAt' {c : Cell} (S : StoreR K g st H) (h1 : D ∉ g.ad) (h2 : g.B D = none) (hc : CellR K ⟨g.B, g.ad ++ [D]⟩ H D c) : StoreR K ⟨g.B, g.ad ++ [D]⟩ (st ++ [c]) H where
  sub := S.sub
  off := fun a m => by
    rcases List.mem_append.mp m with m | m
    · exact S.off a m
    · have e : a = D := by simpa using m
      rw [e]
      exact h2
  nd := by
    show (g.ad ++ [D]).Nodup
    rw [List.nodup_append]
    refine ⟨S.nd, by simp, fun a m b m' e => ?_⟩
    have e2 : b = D := by simpa using m'
    exact h1 (by rw [← e2, ← e]; exact m)
  cells := paired_snoc (paired_mem S.cells fun a c m q => q.mono (g := g) (g' := ⟨g.B, g.ad ++ [D]⟩) (Same.refl g.B) ⟨[D], rfl⟩ rfl) hc
theorem Step.cellAt' (T : Step g H g' H') (hD : H D = none) : Step g H ⟨g'.B, g'.ad ++ [D]⟩ H' where
  sub := T.sub
  pre := by
    obtain ⟨l, e⟩ := T.pre
    exact ⟨l ++ [D], by show g'.ad ++ [D] = _; rw [e, List.append_assoc]⟩
  newB := T.newB
  newA := fun a m => by
    rcases List.mem_append.mp m with m | m
    · exact T.newA a m
    · have e : a = D := by simpa using m
      exact .inr (e ▸ hD)
  keep := T.keep
  dom := T.dom
end
section
variable {α β γ : Type}
theorem M_assoc (m : M α) (f : α → M β) (k : β → M γ) : ((m >>= f) >>= k) = (m >>= fun x => f x >>= k) := by
  funext st
  have e : ∀ {δ ε : Type} (m : M δ) (f : δ → M ε) (st : Store), (m >>= f) st = (match m st with
    | .ok v st' => f v st'
    | .exc c x st' => .exc c x st'
    | .bad => .bad) := fun m f st => rfl
  rw [e, e, e]
  cases m st with
  | ok v st' => exact (e _ _ _).symm ▸ rfl
  | exc c x st' => rfl
  | bad => rfl
theorem noExc_ok {α' β' : Type} {K : PySem.W.Frag} {rel' : GS → β' → α' → Prop} {C : XK} {g : GS} {H : Hp} {st : Store} {m : M α} {k : α → M α'} {Q : β' → Hp → Prop} (h : Out K rel' C g H ((noExc m >>= k) st) Q) :
    ∃ v st', m st = .ok v st' ∧ Out K rel' C g H (k v st') Q := by
  have e : (noExc m >>= k) st = (match noExc m st with
    | .ok v st' => k v st'
    | .exc c x st' => .exc c x st'
    | .bad => .bad) := rfl
  have e2 : noExc m st = (match m st with
    | .exc _ _ _ => .bad
    | r => r) := rfl
  rw [e, e2] at h
  revert h
  cases m st with
  | ok v st' => exact fun h => ⟨v, st', rfl, h⟩
  | exc c x st' => exact fun h => h.elim
  | bad => exact fun h => h.elim
end
section
variable {G : Glob} {N : List Str} {W : WX} {K : PySem.W.Frag}
/-- the new list, at the end -/
theorem lc_end {X : Cx} {pos : Pos} {g1 g' : GS} {H1 H : Hp} {st' : Store} {acc : List V} {ds : List DV} {D : Addr} {C : XK} {Q : VK} (S : StoreR X.K g' st' H) (T : Step g1 H1 g' H) (hD1 : H1 D = none) (hD : H D = some (.lst acc)) (h1 : D ∉ g'.ad) (h2 : g'.B D = none)
    (r : RDs X.K g'.B acc ds) (q : Out X.K (RV X.K) C g1 H1 (cellM G pos (ds.map Val.d) st') Q) : Q (.ref D) H := by
  unfold cellM at q
  split at q
  · have S' := S.cellAt' h1 h2 (c := .lst (ds.map Val.d)) ⟨acc, hD, r.vals⟩
    refine q _ _ _ S' (T.cellAt' hD1) ⟨D, rfl, ?_⟩
    have hl : g'.ad.length = st'.length := Paired.length S.cells
    show (g'.ad ++ [D])[st'.length]? = some D
    rw [← hl]
    simp
  · split at q
    · rename_i es e
      split at q
      · have rd := pure_RVs (g := ⟨g'.B, g'.ad⟩) r.vals e
        have S' := S.freeze h1 h2 hD
        refine q _ _ _ S' (T.freeze hD1 h2) (RD.lst upd_self (rd.mono fun b u e => ?_))
        show upd g'.B D _ b = some u
        have e : g'.B b = some u := e
        rw [upd_ne (ne_of_none e h2)]
        exact e
      · exact q.elim
    · exact q.elim
theorem lc_reads {X : Cx} {pos : Pos} {mi : IP.Env → M (List Val)} {cond : IP.Env → M Bool} {elt : IP.Env → M Val} {wr : Str → Bool} {tg : Expr} {vs : List Nat} {σ : L2.St} {H : Hp} {Q : VK} (hvs : ∀ y i, wr y = true → idx N y = some i → i ∈ vs)
    (h : tE X.K W (fun env => mi env >>= fun items => if items.length ≤ lim then compLoop (fun v => bindTg wr N tg v (wipeE env vs)) cond elt items >>= fun ds => cellM G pos (ds.map Val.d) else bad) σ H Q) :
    tLc (tS X.K W mi) (gI X.K N wr tg) (tT X.K W0 cond) (tE X.K W0 elt) vs σ H Q := by
  unfold tLc
  refine tM_imp (tM_bind (rel := relS X.K) h) fun J H1 ⟨g1, env, items, st1, S1, R1, w, q⟩ => fun D hD => ?_
  by_cases hl : items.length ≤ lim
  case neg =>
    rw [if_neg hl] at q
    exact q.elim
  rw [if_pos hl] at q
  refine lc_it w (fun i H => ∃ g' st' acc ds, StoreR X.K g' st' H ∧ Step g1 H1 g' H ∧ H D = some (.lst acc) ∧ D ∉ g'.ad ∧ g'.B D = none ∧ RDs X.K g'.B acc ds ∧ acc.length ≤ i ∧
    Out X.K (RV X.K) (WE W σ) g1 H1 ((compLoop (fun v => bindTg wr N tg v (wipeE env vs)) cond elt (items.drop i) >>= fun rest => cellM G pos ((ds ++ rest).map Val.d)) st') Q) ?_ ?_ ?_ ?_
  · obtain ⟨S', T'⟩ := S1.own (.lst []) hD
    exact ⟨g1, st1, [], [], S', T', upd_self, fun m => S1.there m hD, S1.sub.free hD, .nil, Nat.zero_le _, q⟩
  · rintro i H _ ⟨g', st', acc, ds, S', T', _⟩
    exact T'.sub.trans S'.sub
  · rintro i x H H' hi ⟨g', st', acc, ds, S', T', hacc, hA, hB, rd, hlen, q⟩ ⟨v, ev, hy⟩
    obtain ⟨g2, S2, T2, r2⟩ := hy g' st' S' T'.sub T'.pre
    obtain ⟨hA2, hB2, hacc2⟩ := T2.away hA hB hacc
    have hd : items.drop i = v :: items.drop (i + 1) := by
      have hi' : i < items.length := hi
      rw [List.drop_eq_getElem_cons hi']
      rw [List.getElem?_eq_getElem hi'] at ev
      cases ev
      rfl
    rw [hd] at q
    cases hb : bindTg wr N tg v (wipeE env vs) with
    | none =>
      have e : compLoop (fun v => bindTg wr N tg v (wipeE env vs)) cond elt (v :: items.drop (i + 1)) = bad := by
        show (match bindTg wr N tg v (wipeE env vs) with
          | none => bad
          | some e1 => _) = _
        rw [hb]
      rw [e] at q
      exact q.elim
    | some e1 =>
      have e : compLoop (fun v => bindTg wr N tg v (wipeE env vs)) cond elt (v :: items.drop (i + 1)) = (noExc (cond e1) >>= fun b => if b then (noExc (elt e1) >>= fun v => match v with
          | .d y => compLoop (fun v => bindTg wr N tg v (wipeE env vs)) cond elt (items.drop (i + 1)) >>= fun ys => pure (y :: ys)
          | _ => bad) else compLoop (fun v => bindTg wr N tg v (wipeE env vs)) cond elt (items.drop (i + 1))) := by
        show (match bindTg wr N tg v (wipeE env vs) with
          | none => bad
          | some e1 => _) = _
        rw [hb]
        all_goals rfl
      rw [e, M_assoc] at q
      obtain ⟨b, st3, hc, q⟩ := noExc_ok q
      refine ⟨g2, wipeE env vs, v, e1, ((R1.step (T'.trans T2)).wipe vs), r2, S2.sub, hb, fun σ2 R2 hσ => ⟨(hσ vs hvs).trans wipe_wipe, g2, e1, st', S2, R2, ?_⟩⟩
      rw [hc]
      intro b' g3 H3 S3 T3 rb
      have rb : b' = b := rb
      subst rb
      obtain ⟨hA3, hB3, hacc3⟩ := T3.away hA2 hB2 hacc2
      have T03 := (T'.trans T2).trans T3
      cases b' with
      | false =>
        rw [if_neg (by simp)] at q
        rw [if_neg (by simp)]
        exact ⟨g3, st3, acc, ds, S3, T03, hacc3, hA3, hB3, rd.mono (T2.sub.trans T3.sub), Nat.le_succ_of_le hlen, q⟩
      | true =>
        rw [if_pos rfl, M_assoc] at q
        rw [if_pos rfl]
        obtain ⟨v4, st4, he, q⟩ := noExc_ok q
        refine ⟨g3, e1, st3, S3, R2.step T3, ?_⟩
        rw [he]
        intro y g4 H4 S4 T4 ry
        obtain ⟨hA4, hB4, hacc4⟩ := T4.away hA3 hB3 hacc3
        cases v4 with
        | d yv =>
          refine ⟨acc, hacc4, lim_line' (by omega), g4, st4, acc ++ [y], ds ++ [yv], S4.other _ hA4 hB4, (T03.trans T4).other _ hD, upd_self, hA4, hB4, (rd.mono ((T2.sub.trans T3.sub).trans T4.sub)).append (.cons ry .nil), by simp; omega, ?_⟩
          rw [M_assoc] at q
          have e2 : (fun ys => (pure (yv :: ys) : M (List DV)) >>= fun rest => cellM G pos ((ds ++ rest).map Val.d)) = fun rest => cellM G pos ((ds ++ [yv] ++ rest).map Val.d) := by
            funext ys
            show cellM G pos ((ds ++ yv :: ys).map Val.d) = _
            rw [List.append_assoc]
            rfl
          rw [e2] at q
          exact q
        | _ => exact q.elim
  · rintro H ⟨g', st', acc, ds, S', T', hacc, hA, hB, rd, hlen, q⟩
    rw [List.drop_length] at q
    have q : Out X.K (RV X.K) (WE W σ) g1 H1 (cellM G pos ((ds ++ []).map Val.d) st') Q := q
    rw [List.append_nil] at q
    exact lc_end S' T' hD hacc hA hB rd q
end
end IP

set_option maxHeartbeats 4000000
/-! IP22: expressions: the interpreter's answer is what the program's text does. -/
namespace IP
open PySem PySem.Spec PyProof.Rows L2
section
variable {G : Glob} {call : Key2 → List Val → M Val} {k : Nat} {N : List Str} {sc : Scope} {W : WX} {X : Cx}
theorem CtxE.blk (C : CtxE G call k N sc W X) {s : Shared} {H : Hp} {scope : Scope} {A : Addr} {cl : List (Str × Addr)} {fp : List Addr} : CtxE G call k N (L2.relS scope sc) W0 (X.blk s H scope (compEnvC scope cl A X.env) fp) where
  hN := C.hN
  nd := C.nd
  scope := by
    show L2.relS scope X.env.scope = _
    rw [C.scope]
  calm := C.calm
  tk := fun u s' ⟨_, _, _, _, _, _, _, _, _, _, _, _, _, _, _, _, w⟩ => w.elim
  room := C.room
  glob := C.glob
  fns := C.fns
  own := PassesOwn.never
  len := C.len
theorem own_slot {scope : Scope} : ∀ {names : List (Str × NameKind)} {y : Str} {i : Nat}, names.lookup y = some .local ∨ names.lookup y = some .cell → idx N y = some i → i ∈ (ownOf N names).map (·.2)
  | [], y, i, h, _ => by simp at h
  | (x, kd) :: r, y, i, h, hi => by
    by_cases e : y = x
    · subst e
      simp only [List.lookup_cons, beq_self_eq_true, Option.some.injEq] at h
      rcases h with h | h <;> subst h <;> unfold ownOf <;> rw [hi] <;> simp
    · rw [List.lookup_cons, beq_eq_false_iff_ne.mpr e] at h
      have ih := own_slot (scope := scope) (names := r) h hi
      unfold ownOf
      cases kd with
      | «local» =>
        cases idx N x with
        | none => exact ih
        | some j => exact List.mem_cons_of_mem _ ih
      | cell =>
        cases idx N x with
        | none => exact ih
        | some j => exact List.mem_cons_of_mem _ ih
      | _ => exact ih
theorem own_all {scope : Scope} : ∀ y i, isLoc scope y = true → idx N y = some i → i ∈ (ownOf N scope.names).map (·.2) := fun y i h hi => own_slot (scope := scope) (loc_ok h) hi
theorem WrOk.blk {s : Shared} {H : Hp} {scope : Scope} {A : Addr} {cl : List (Str × Addr)} {fp : List Addr} : WrOk (X.blk s H scope (compEnvC scope cl A X.env) fp) (isLoc scope) := fun x h => by
  have keep : ∀ kd, kd ≠ .free → scope.names.lookup x = some kd → (L2.relS scope X.env.scope).names.lookup x = some kd := fun kd h1 h2 => lookup_relS_keep h1 h2
  rcases loc_ok h with e | e
  · exact ⟨.inl (keep _ (by simp) e), .inr (keep _ (by simp) e)⟩
  · refine ⟨.inr (keep _ (by simp) e), .inl ?_⟩
    show (scope.names.lookup x == some NameKind.cell) = true
    rw [e]
    rfl
theorem PTs_imp {ifs : List Expr} {t t' : TT} (h : PTs X ifs t) (f : ∀ σ H Q, t' σ H Q → t σ H Q) : PTs X ifs t' := ⟨fun pins s σ H Q I q => h.run pins s σ H Q I (f σ H Q q)⟩
theorem s_ifs {mf : Expr → IP.Env → M Bool} {ifs : List Expr} (h : ∀ c ∈ ifs, PT X c (tT X.K W (mf c))) : PTs X ifs (tT X.K W (condOf mf ifs)) := by
  match ifs, h with
  | [], _ => exact PTs_imp pts_nil fun σ H Q ⟨g, env, st, S, R, h⟩ => Out.pure h S (show relB g true true from rfl)
  | [c], h => exact pts_one (h c (by simp))
  | _ :: _ :: _, _ => exact ⟨fun pins s σ H Q I ⟨g, env, st, S, R, h⟩ => h.elim⟩
/-- what a comprehension's parts hold -/
structure LcOk (G : Glob) (call : Key2 → List Val → M Val) (k : Nat) (N : List Str) (sc : Scope) (scope : Scope) (W : WX) (X : Cx) (tg iter elt : Expr) (ifs : List Expr) (mi : IP.Env → M (List Val)) (mc : Expr → IP.Env → M Bool) (me : IP.Env → M Val) : Prop where
  hi : PI X tg iter (tS X.K W mi)
  ok : BlkOk N sc scope (ownOf N scope.names)
  ht : ∀ {X' : Cx}, CtxE G call k N (L2.relS scope sc) W0 X' → X'.K = X.K → PTs X' ifs (tT X.K W0 (condOf mc ifs))
  he : ∀ {X' : Cx}, CtxE G call k N (L2.relS scope sc) W0 X' → X'.K = X.K → PE X' elt (tE X.K W0 me)
  hs : isSetE iter = false
theorem s_tgB (C : CtxE G call k N sc W X) {tg : Expr} {s : Shared} {H : Hp} {scope : Scope} {A : Addr} {cl : List (Str × Addr)} {fp : List Addr} : PG (X.blk s H scope (compEnvC scope cl A X.env) fp) tg (gI X.K N (isLoc scope) tg) :=
  s_tg (X := X.blk s H scope (compEnvC scope cl A X.env) fp) C.hN C.nd C.calm WrOk.blk
theorem s_lc (C : CtxE G call k N sc W X) {tg iter elt : Expr} {ifs : List Expr} {scope : Scope} {pos : Pos} {mi : IP.Env → M (List Val)} {mc : Expr → IP.Env → M Bool} {me : IP.Env → M Val} (L : LcOk G call k N sc scope W X tg iter elt ifs mi mc me) :
    PE X (.ListComp elt [⟨tg, iter, ifs, 0⟩] scope pos) (tE X.K W fun env => mi env >>= fun items => if items.length ≤ lim then compLoop (fun v => bindTg (isLoc scope) N tg v (wipeE env ((ownOf N scope.names).map (·.2)))) (condOf mc ifs) me items >>= fun ds => cellM G pos (ds.map Val.d) else bad) := by
  refine PE_imp (pe_lc (g := gI X.K N (isLoc scope) tg) C.calm C.nd L.hi (by rw [C.hN, C.scope]; exact L.ok) (fun s H A cl fp => s_tgB C) (fun s H A cl fp => L.ht C.blk rfl) (fun s H A cl fp => L.he C.blk rfl) (fold_ok L.hs)) fun σ H Q h => ?_
  exact lc_reads own_all h
theorem s_setLc (C : CtxE G call k N sc W X) {tg iter elt : Expr} {ifs : List Expr} {scope : Scope} {pos py spos : Pos} {y : Str} {i : Nat} {mi : IP.Env → M (List Val)} {mc : Expr → IP.Env → M Bool} {me : IP.Env → M Val} (L : LcOk G call k N sc scope W X tg iter elt ifs mi mc me)
    (hy : idx N y = some i) (hyl : sc.names.lookup y = some .local) (hl : (py.line == pos.line) = true) (ha : (scope.names.any fun (n, k) => n == y && (k == .local || k == .cell)) = false) :
    PS X (.Assign [.Name y py] (.ListComp elt [⟨tg, iter, ifs, 0⟩] scope pos) spos) (tAsg (tE X.K W fun env => mi env >>= fun items => if items.length ≤ lim then compLoop (fun v => bindTg (isLoc scope) N tg v (wipeE env ((ownOf N scope.names).map (·.2)))) (condOf mc ifs) me items >>= fun ds => cellM G pos (ds.map Val.d) else bad) (gName i)) := by
  refine ⟨fun pins s σ H D I h => ?_⟩
  exact (ps_setLc (spos := spos) (pos := pos) (py := py) (i := i) (y := y) (g := gI X.K N (isLoc scope) tg) C.calm C.nd (by rw [C.hN]; exact idx_ok hy) (by rw [C.scope]; exact hyl) (sw_true I.ok.kind (by rw [C.scope]; exact hyl) hl ha) L.hi (by rw [C.hN, C.scope]; exact L.ok) (fun s H A cl fp => s_tgB C) (fun s H A cl fp => L.ht C.blk rfl) (fun s H A cl fp => L.he C.blk rfl) (fold_ok L.hs)).run pins s σ H D I (lc_reads own_all h)
theorem s_tcmp {ma mb : IP.Env → M Val} {a b : Expr} {op : CmpOp} {pos : Pos} (hu : X.A.units + 65 < cLine) (hm : behindInMarks op b = false) (ha : PE X a (tE X.K W ma)) (hb : PE X b (tE X.K W mb)) :
    PT X (.Compare a [op] [b] pos) (tT X.K W fun env => do
      let x ← ma env
      let y ← mb env
      liftP (cmp op x y)) := by
  refine PT_imp (pt_cmpR (op_cmp hu) ha hb hm) fun σ H Q h => ?_
  refine tM_imp (tM_bind2 (rel1 := RV X.K) (rel2 := RV X.K) RV.stay h) fun x H1 h => tM_imp h fun y H2 ⟨g, env, v, u, st, S, R, rx, ry, q⟩ => ?_
  obtain ⟨r, e, q⟩ := liftP_ok q
  exact ⟨g, st, v, u, r, S, rx, ry, e, r, rfl, q _ _ _ S (.refl _ _) rfl⟩
theorem s_tchain {ma mb mc : IP.Env → M Val} {a b c : Expr} {op op' : CmpOp} {pos : Pos} (hu : X.A.units + 65 < cLine) (hm : lastMarks [op, op'] [b, c] = false) (ha : PE X a (tE X.K W ma)) (hb : PE X b (tE X.K W mb)) (hc : PE X c (tE X.K W mc)) :
    PT X (.Compare a [op, op'] [b, c] pos) (tT X.K W fun env => do
      let x ← ma env
      let y ← mb env
      let r ← liftP (cmp op x y)
      if r then do
        let z ← mc env
        liftP (cmp op' y z)
      else pure false) := by
  refine PT_imp (pt_chain (op_cmp hu) (op_cmp hu) ha hb hc hm) fun σ H Q h => ?_
  refine tM_imp (tM_bind2 (rel1 := RV X.K) (rel2 := RV X.K) RV.stay h) fun x H1 h => tM_imp h fun y H2 ⟨g, env, v, u, st, S, R, rx, ry, q⟩ => ?_
  obtain ⟨r, e, q⟩ := bindP_ok q
  refine ⟨g, st, v, u, r, S, rx, ry, e, r, rfl, ?_⟩
  cases r with
  | false => exact ⟨false, rfl, Out.pure q S (show relB g false false from rfl)⟩
  | true =>
    refine ⟨g, env, st, S, R, Out.imp (Out.bind (rel := RV X.K) q) fun z H3 ⟨g3, z', st3, S3, T3, rz, q⟩ => ?_⟩
    obtain ⟨r', e', q⟩ := liftP_ok q
    exact ⟨g3, st3, u, z', r', S3, ry.step T3, rz, e', r', rfl, q _ _ _ S3 (.refl _ _) rfl⟩
/-! ### the big steps -/
theorem setArg_ok {f : Str} {args : List Expr} {a : Expr} (h : setArg G sc f args = some a) : f = "sorted" ∧ ∃ y p2 pos2, args = [.Call (.Name y p2) [a] [] pos2] ∧ y = "set" ∧ isGl sc y = true ∧ y ∈ G.free ∧ isStar a = false := by
  unfold setArg at h
  split at h
  · rename_i hf
    split at h
    · rename_i y p2 b pos2
      split at h
      · rename_i hq
        simp only [Bool.and_eq_true, decide_eq_true_eq, Bool.not_eq_true'] at hq
        cases h
        exact ⟨hf, y, p2, pos2, rfl, hq.1.2, hq.1.1.1, hq.1.1.2, hq.2⟩
      · cases h
    · cases h
  · cases h
theorem isiArg_ok {f : Str} {args : List Expr} {a : Expr} {cs : List Expr} (h : isiArg f args = some (a, cs)) : f = "isinstance" ∧ ∃ k2 p2, args = [a, .Tuple cs k2 p2] ∧ isStar a = false ∧ cs.any isStar = false ∧ cs.length ≤ 100 := by
  unfold isiArg at h
  split at h
  · rename_i hf
    split at h
    · rename_i b ds k2 p2
      split at h
      · cases h
      · rename_i hq
        simp only [Bool.or_eq_true, decide_eq_true_eq, not_or, Bool.not_eq_true] at hq
        cases h
        exact ⟨hf, k2, p2, rfl, hq.1.1, hq.1.2, by omega⟩
    · cases h
  · cases h
theorem lenArg_ok {f : Str} {args : List Expr} {a : Expr} (h : lenArg f args = some a) : f = "len" ∧ args = [a] ∧ isStar a = false := by
  unfold lenArg at h
  split at h
  · rename_i hf
    split at h
    · rename_i b
      split at h
      · cases h
      · rename_i hq
        cases h
        exact ⟨hf, rfl, by simpa using hq⟩
    · cases h
  · cases h
/-- a call by a name -/
theorem s_callN (C : CtxE G call k N sc W X) {n : Nat} (ih : ∀ e, PE X e (tE X.K W (ev G call n N sc e))) {f : Str} {p pos : Pos} {args : List Expr} {kws : List Keyword} :
    PE X (.Call (.Name f p) args kws pos) (tE X.K W (ev G call (n + 1) N sc (.Call (.Name f p) args kws pos))) := by
  by_cases h0 : (okName f && isGl sc f) = true
  case neg =>
    exact PE_to PE_bad fun env => by
        show (if okName f && isGl sc f then _ else bad) = bad
        rw [if_neg h0]
  have hh := h0
  simp only [Bool.and_eq_true] at hh
  obtain ⟨h1, h2⟩ := hh
  cases hf : G.find (f, none) with
  | some d =>
    obtain ⟨d, N'⟩ := d
    cases kws with
    | nil =>
      refine PE_to (s_call C (mf := ev G call n N sc) hf h1 h2 fun e _ => ih e) fun env => ?_
      show (if okName f && isGl sc f then (match G.find (f, none) with | some d => _ | none => _) else bad) = _
      rw [if_pos h0, hf]
    | cons w ws =>
      cases args with
      | cons a as =>
        exact PE_to PE_bad fun env => by
            show (if okName f && isGl sc f then (match G.find (f, none) with | some d => _ | none => _) else bad) = _
            rw [if_pos h0, hf]
      | nil =>
        cases hk : keysOf (w :: ws) with
        | none =>
          exact PE_to PE_bad fun env => by
              show (if okName f && isGl sc f then (match G.find (f, none) with | some d => _ | none => _) else bad) = _
              rw [if_pos h0, hf]
              dsimp only
              rw [hk]
        | some ks =>
          by_cases hm : ((f, none), ks) ∈ G.kws
          case neg =>
            exact PE_to PE_bad fun env => by
                show (if okName f && isGl sc f then (match G.find (f, none) with | some d => _ | none => _) else bad) = _
                rw [if_pos h0, hf]
                dsimp only
                rw [hk]
                dsimp only
                rw [if_neg hm]
          refine PE_to (s_callK C (mf := ev G call n N sc) hf h1 h2 hk hm fun w _ => ih w.value) fun env => ?_
          show (if okName f && isGl sc f then (match G.find (f, none) with | some d => _ | none => _) else bad) = _
          rw [if_pos h0, hf]
          dsimp only
          rw [hk]
          dsimp only
          rw [if_pos hm]
          all_goals rfl
  | none =>
    cases kws with
    | cons w ws =>
      exact PE_to PE_bad fun env => by
          show (if okName f && isGl sc f then (match G.find (f, none) with | some d => _ | none => _) else bad) = _
          rw [if_pos h0, hf]
    | nil =>
      cases hc : lookS G.cls f with
      | some b =>
        cases hi : G.find (f, some "__init__") with
        | none =>
          exact PE_to PE_bad fun env => by
              show (if okName f && isGl sc f then (match G.find (f, none) with | some d => _ | none => _) else bad) = _
              rw [if_pos h0, hf]
              dsimp only
              rw [hc]
              dsimp only
              rw [hi]
              exact if_pos rfl
        | some d =>
          obtain ⟨d, N'⟩ := d
          refine PE_to (s_make C (mf := ev G call n N sc) hc hi h1 h2 fun e _ => ih e) fun env => ?_
          show (if okName f && isGl sc f then (match G.find (f, none) with | some d => _ | none => _) else bad) = _
          rw [if_pos h0, hf]
          dsimp only
          rw [hc]
          dsimp only
          rw [hi, if_neg (by simp)]
      | none =>
        by_cases hfr : f ∈ G.free
        case neg =>
          exact PE_to PE_bad fun env => by
              show (if okName f && isGl sc f then (match G.find (f, none) with | some d => _ | none => _) else bad) = _
              rw [if_pos h0, hf]
              dsimp only
              rw [hc]
              dsimp only
              rw [if_neg hfr]
        cases hs : setArg G sc f args with
        | some a =>
          obtain ⟨e1, y, p2, pos2, e2, e3, e4, e5, e6⟩ := setArg_ok hs
          subst e2
          refine PE_to (s_set C (mf := ev G call n N sc) e1 e3 hfr e5 h2 e4 e6 (ih a)) fun env => ?_
          show (if okName f && isGl sc f then (match G.find (f, none) with | some d => _ | none => _) else bad) = _
          rw [if_pos h0, hf]
          dsimp only
          rw [hc]
          dsimp only
          rw [if_pos hfr, hs]
        | none =>
          cases hi : isiArg f args with
          | some ac =>
            obtain ⟨a, cs⟩ := ac
            obtain ⟨e1, k2, p2, e2, e3, e4, e5⟩ := isiArg_ok hi
            subst e2
            refine PE_to (s_isi C (mf := ev G call n N sc) e1 hfr h2 e3 e4 e5 (ih a) fun e _ => ih e) fun env => ?_
            show (if okName f && isGl sc f then (match G.find (f, none) with | some d => _ | none => _) else bad) = _
            rw [if_pos h0, hf]
            dsimp only
            rw [hc]
            dsimp only
            rw [if_pos hfr, hs]
            dsimp only
            rw [hi]
          | none =>
            cases hln : lenArg f args with
            | some a =>
              obtain ⟨e1, e2, e3⟩ := lenArg_ok hln
              subst e2
              refine PE_to (s_len C (mf := ev G call n N sc) e1 hfr h2 e3 (ih a)) fun env => ?_
              show (if okName f && isGl sc f then (match G.find (f, none) with | some d => _ | none => _) else bad) = _
              rw [if_pos h0, hf]
              dsimp only
              rw [hc]
              dsimp only
              rw [if_pos hfr, hs]
              dsimp only
              rw [hi]
              dsimp only
              rw [hln]
            | none =>
              cases hb : biF f args.length with
              | none =>
                exact PE_to PE_bad fun env => by
                    show (if okName f && isGl sc f then (match G.find (f, none) with | some d => _ | none => _) else bad) = _
                    rw [if_pos h0, hf]
                    dsimp only
                    rw [hc]
                    dsimp only
                    rw [if_pos hfr, hs]
                    dsimp only
                    rw [hi]
                    dsimp only
                    rw [hln]
                    dsimp only
                    rw [hb]
              | some F =>
                refine PE_to (s_bi C (mf := ev G call n N sc) hb hfr h1 h2 fun e _ => ih e) fun env => ?_
                show (if okName f && isGl sc f then (match G.find (f, none) with | some d => _ | none => _) else bad) = _
                rw [if_pos h0, hf]
                dsimp only
                rw [hc]
                dsimp only
                rw [if_pos hfr, hs]
                dsimp only
                rw [hi]
                dsimp only
                rw [hln]
                dsimp only
                rw [hb]
end
end IP

set_option maxHeartbeats 4000000
/-! IP23: every expression. -/
namespace IP
open PySem PySem.Spec PyProof.Rows L2
section
variable {G : Glob} {call : Key2 → List Val → M Val} {k : Nat}
def SoundE (G : Glob) (call : Key2 → List Val → M Val) (k n : Nat) : Prop := ∀ {N : List Str} {sc : Scope} {W : WX} {X : Cx}, CtxE G call k N sc W X → ∀ e, PE X e (tE X.K W (ev G call n N sc e))
def SoundT (G : Glob) (call : Key2 → List Val → M Val) (k n : Nat) : Prop := ∀ {N : List Str} {sc : Scope} {W : WX} {X : Cx}, CtxE G call k N sc W X → ∀ e, PT X e (tT X.K W (evT G call n N sc e))
theorem sound_lcOk {n : Nat} (hE : SoundE G call k n) (hT : SoundT G call k n) {N : List Str} {sc : Scope} {W : WX} {X : Cx} (C : CtxE G call k N sc W X) {tg iter elt : Expr} {ifs : List Expr} {scope : Scope} (hb : blkC N sc scope (ownOf N scope.names) = true) (hs : isSetE iter = false) :
    LcOk G call k N sc scope W X tg iter elt ifs (fun env => srcOf G sc (fun e => ev G call n N sc e env) tg iter) (fun c e1 => evT G call n N (L2.relS scope sc) c e1) (fun e1 => ev G call n N (L2.relS scope sc) elt e1) where
  hi := s_src C (mf := ev G call n N sc) (hE C iter) fun f args kws pos e a _ => hE C a
  ok := blkOk_by hb
  ht := fun {X'} C' hK => by
    rw [← hK]
    exact s_ifs fun c _ => hT C' c
  he := fun {X'} C' hK => by
    rw [← hK]
    exact hE C' elt
  hs := hs
theorem sound_lc {n : Nat} (hE : SoundE G call k n) (hT : SoundT G call k n) {N : List Str} {sc : Scope} {W : WX} {X : Cx} (C : CtxE G call k N sc W X) {tg iter elt : Expr} {ifs : List Expr} {scope : Scope} {pos : Pos} :
    PE X (.ListComp elt [⟨tg, iter, ifs, 0⟩] scope pos) (tE X.K W (ev G call (n + 1) N sc (.ListComp elt [⟨tg, iter, ifs, 0⟩] scope pos))) := by
  by_cases hb : blkC N sc scope (ownOf N scope.names) = true
  case neg =>
    exact PE_to PE_bad fun env => by
      show (if blkC N sc scope (ownOf N scope.names) then _ else bad) = bad
      rw [if_neg hb]
  by_cases hs : isSetE iter = true
  case pos =>
    refine PE_to PE_bad fun env => ?_
    show (if blkC N sc scope (ownOf N scope.names) then (srcOf G sc (fun e => ev G call n N sc e env) tg iter >>= _) else bad) = bad
    rw [if_pos hb]
    unfold srcOf
    rw [if_pos hs]
    rfl
  refine PE_to (s_lc C (sound_lcOk hE hT C hb (by simpa using hs))) fun env => ?_
  show (if blkC N sc scope (ownOf N scope.names) then _ else bad) = _
  rw [if_pos hb]
theorem sound_call {n : Nat} (hE : SoundE G call k n) {N : List Str} {sc : Scope} {W : WX} {X : Cx} (C : CtxE G call k N sc W X) {f : Expr} {args : List Expr} {kws : List Keyword} {pos : Pos} :
    PE X (.Call f args kws pos) (tE X.K W (ev G call (n + 1) N sc (.Call f args kws pos))) := by
  cases f with
  | Name x p => exact s_callN C (hE C)
  | Attribute o m apos =>
    cases kws with
    | cons _ _ => exact PE_to PE_bad fun env => rfl
    | nil =>
      by_cases hc : ((apos.endLine == pos.line) && decide (args.length < 20) && plainB o && !args.any isStar) = true
      case neg =>
        exact PE_to PE_bad fun env => by
          show (if (apos.endLine == pos.line) && decide (args.length < 20) && plainB o && !args.any isStar then _ else bad) = bad
          rw [if_neg hc]
      have hh := hc
      simp only [Bool.and_eq_true, decide_eq_true_eq, Bool.not_eq_true'] at hh
      refine PE_to (s_meth C (mf := ev G call n N sc) (m := m) hh.1.1.1 hh.1.1.2 hh.1.2 hh.2 (hE C o) fun e _ => hE C e) fun env => ?_
      show (if (apos.endLine == pos.line) && decide (args.length < 20) && plainB o && !args.any isStar then _ else bad) = _
      rw [if_pos hc]
      all_goals rfl
  | _ => exact PE_to PE_bad fun env => rfl
theorem sound_sub {n : Nat} (hE : SoundE G call k n) {N : List Str} {sc : Scope} {W : WX} {X : Cx} (C : CtxE G call k N sc W X) {o i : Expr} {pos : Pos} :
    PE X (.Subscript o i pos) (tE X.K W (ev G call (n + 1) N sc (.Subscript o i pos))) := by
  cases i with
  | Slice lo hi st p2 =>
    cases st with
    | none => exact PE_to (s_slice (mf := ev G call n N sc) (hE C o) (fun e _ => hE C e) fun e _ => hE C e) fun env => rfl
    | some _ => exact PE_to PE_bad fun env => rfl
  | _ => exact PE_to (s_item (by intros; simp) (hE C o) (hE C _)) fun env => rfl
theorem sound_cmp {n : Nat} (hE : SoundE G call k n) {N : List Str} {sc : Scope} {W : WX} {X : Cx} (C : CtxE G call k N sc W X) {a : Expr} {ops : List CmpOp} {cs : List Expr} {pos : Pos} :
    PE X (.Compare a ops cs pos) (tE X.K W (ev G call (n + 1) N sc (.Compare a ops cs pos))) := by
  match ops, cs with
  | [op], [b] =>
    by_cases hm : behindInMarks op b = true
    · exact PE_to PE_bad fun env => by
        show (if behindInMarks op b then bad else _) = bad
        rw [if_pos hm]
    · refine PE_to (s_cmp C.units (by simpa using hm) (hE C a) (hE C b)) fun env => ?_
      show (if behindInMarks op b then bad else _) = _
      rw [if_neg hm]
  | [op, op'], [b, c] =>
    by_cases hm : lastMarks [op, op'] [b, c] = true
    · exact PE_to PE_bad fun env => by
        show (if lastMarks [op, op'] [b, c] then bad else _) = bad
        rw [if_pos hm]
    · refine PE_to (s_chain C.units (by simpa using hm) (hE C a) (hE C b) (hE C c)) fun env => ?_
      show (if lastMarks [op, op'] [b, c] then bad else _) = _
      rw [if_neg hm]
  | [], _ => exact PE_to PE_bad fun env => rfl
  | [_], [] => exact PE_to PE_bad fun env => rfl
  | [_], _ :: _ :: _ => exact PE_to PE_bad fun env => rfl
  | [_, _], [] => exact PE_to PE_bad fun env => rfl
  | [_, _], [_] => exact PE_to PE_bad fun env => rfl
  | [_, _], _ :: _ :: _ :: _ => exact PE_to PE_bad fun env => rfl
  | _ :: _ :: _ :: _, _ => exact PE_to PE_bad fun env => rfl
theorem sound_tcmp {n : Nat} (hE : SoundE G call k n) {N : List Str} {sc : Scope} {W : WX} {X : Cx} (C : CtxE G call k N sc W X) {a : Expr} {ops : List CmpOp} {cs : List Expr} {pos : Pos} :
    PT X (.Compare a ops cs pos) (tT X.K W (evT G call (n + 1) N sc (.Compare a ops cs pos))) := by
  match ops, cs with
  | [op], [b] =>
    by_cases hm : behindInMarks op b = true
    · exact PT_to PT_bad fun env => by
        show (if behindInMarks op b then bad else _) = bad
        rw [if_pos hm]
    · refine PT_to (s_tcmp C.units (by simpa using hm) (hE C a) (hE C b)) fun env => ?_
      show (if behindInMarks op b then bad else _) = _
      rw [if_neg hm]
  | [op, op'], [b, c] =>
    by_cases hm : lastMarks [op, op'] [b, c] = true
    · exact PT_to PT_bad fun env => by
        show (if lastMarks [op, op'] [b, c] then bad else _) = bad
        rw [if_pos hm]
    · refine PT_to (s_tchain C.units (by simpa using hm) (hE C a) (hE C b) (hE C c)) fun env => ?_
      show (if lastMarks [op, op'] [b, c] then bad else _) = _
      rw [if_neg hm]
  | [], _ => exact PT_to PT_bad fun env => rfl
  | [_], [] => exact PT_to PT_bad fun env => rfl
  | [_], _ :: _ :: _ => exact PT_to PT_bad fun env => rfl
  | [_, _], [] => exact PT_to PT_bad fun env => rfl
  | [_, _], [_] => exact PT_to PT_bad fun env => rfl
  | [_, _], _ :: _ :: _ :: _ => exact PT_to PT_bad fun env => rfl
  | _ :: _ :: _ :: _, _ => exact PT_to PT_bad fun env => rfl
theorem sound_ev : ∀ n, SoundE G call k n ∧ SoundT G call k n
  | 0 => ⟨fun C e => PE_to PE_bad fun env => rfl, fun C e => PT_to PT_bad fun env => rfl⟩
  | n + 1 => by
    obtain ⟨hE, hT⟩ := sound_ev n
    have hE1 : SoundE G call k (n + 1) := by
      intro N sc W X C e
      cases e with
      | Constant c j p => exact PE_to s_const fun env => rfl
      | Name x p => exact PE_to (s_name C) fun env => rfl
      | BinOp a op b p => exact PE_to (s_binop (hE C a) (hE C b)) fun env => rfl
      | UnaryOp op a p =>
        by_cases ho : op = .Not
        · subst ho
          exact PE_to (s_not (hE C a)) fun env => rfl
        · exact PE_to (s_un ho (hE C a)) fun env => rfl
      | BoolOp op es p => exact PE_to (s_boolop (mf := ev G call n N sc) fun e _ => hE C e) fun env => rfl
      | Compare a ops cs p => exact sound_cmp hE C
      | IfExp c a b p => exact PE_to (s_ifExp (hT C c) (hE C a) (hE C b)) fun env => rfl
      | Tuple es x p => exact PE_to (s_tuple (mf := ev G call n N sc) fun e _ => hE C e) fun env => rfl
      | List es p => exact PE_to (s_list (mf := ev G call n N sc) fun e _ => hE C e) fun env => rfl
      | ListComp elt gens scope p =>
        match gens with
        | [⟨tg, iter, ifs, .ofNat 0⟩] => exact sound_lc hE hT C
        | [] => exact PE_to PE_bad fun env => rfl
        | [⟨tg, iter, ifs, .ofNat (_ + 1)⟩] => exact PE_to PE_bad fun env => rfl
        | [⟨tg, iter, ifs, .negSucc _⟩] => exact PE_to PE_bad fun env => rfl
        | ⟨_, _, _, .ofNat 0⟩ :: _ :: _ => exact PE_to PE_bad fun env => rfl
        | ⟨_, _, _, .ofNat (_ + 1)⟩ :: _ :: _ => exact PE_to PE_bad fun env => rfl
        | ⟨_, _, _, .negSucc _⟩ :: _ :: _ => exact PE_to PE_bad fun env => rfl
      | Subscript o i p => exact sound_sub hE C
      | Attribute o f p =>
        by_cases hp : plainB o = true
        · refine PE_to (s_attr C hp (hE C o)) fun env => ?_
          show (if plainB o then _ else bad) = _
          rw [if_pos hp]
        · exact PE_to PE_bad fun env => by
            show (if plainB o then _ else bad) = bad
            rw [if_neg hp]
      | Call f args kws p => exact sound_call hE C
      | _ => exact PE_to PE_bad fun env => rfl
    refine ⟨hE1, fun {N sc W X} C e => ?_⟩
    cases e with
    | UnaryOp op a p =>
      cases op with
      | Not => exact PT_to (s_tnot (hT C a)) fun env => rfl
      | _ => exact PT_to (s_tval (hE C _) fun _ => rfl) fun env => rfl
    | BoolOp op es p =>
      cases es with
      | nil => exact PT_to PT_bad fun env => rfl
      | cons e es => exact PT_to (s_tboolop (mf := evT G call n N sc) (by simp) fun e _ => hT C e).pt fun env => rfl
    | IfExp c a b p => exact PT_to PT_bad fun env => rfl
    | Compare a ops cs p => exact sound_tcmp hE C
    | _ => exact PT_to (s_tval (hE C _) fun _ => rfl) fun env => rfl
end
end IP

set_option maxHeartbeats 4000000
/-! IP24: statements: readings. -/
namespace IP
open PySem PySem.Spec PyProof.Rows L2
def OutS (K : PySem.W.Frag) (W : WX) (D : Ends) (g : GS) (H : Hp) (r : SR) : Prop := match r with
  | .ok .next env st' => ∀ σ' g' H', StoreR K g' st' H' → Step g H g' H' → EnvR K g' env σ' → D.nx σ' H'
  | .ok .brk env st' => ∀ σ' g' H', StoreR K g' st' H' → Step g H g' H' → EnvR K g' env σ' → D.bk σ' H'
  | .ok .cont env st' => ∀ σ' g' H', StoreR K g' st' H' → Step g H g' H' → EnvR K g' env σ' → D.ct σ' H'
  | .ok (.ret v) env st' => ∀ x g' H', StoreR K g' st' H' → Step g H g' H' → RV K g' x v → D.rt x H'
  | .exc c xs env st' => ∀ σ' g' H' cls d, StoreR K g' st' H' → Step g H g' H' → EnvR K g' env σ' → XR K g' H' c xs cls d → W cls d σ' H'
  | .bad => False
def tSt (K : PySem.W.Frag) (W : WX) (m : SM) : TS := fun D σ H => ∃ g env st, StoreR K g st H ∧ EnvR K g env σ ∧ OutS K W D g H (m env st)
section
variable {K : PySem.W.Frag} {W : WX} {D D' : Ends} {g g' g1 : GS} {H H' H1 : Hp} {σ : L2.St} {env : IP.Env} {st : Store} {α β : Type} {rel : GS → β → α → Prop}
theorem OutS.later {r : SR} (t : Step g H g1 H1) (h : OutS K W D g H r) : OutS K W D g1 H1 r := by
  cases r with
  | ok f env st =>
    cases f with
    | next => exact fun σ' g' H' S T R => h σ' g' H' S (t.trans T) R
    | brk => exact fun σ' g' H' S T R => h σ' g' H' S (t.trans T) R
    | cont => exact fun σ' g' H' S T R => h σ' g' H' S (t.trans T) R
    | ret v => exact fun σ' g' H' S T R => h σ' g' H' S (t.trans T) R
  | exc c xs env st => exact fun σ' g' H' cls d S T R X => h σ' g' H' cls d S (t.trans T) R X
  | bad => exact h
theorem withV_ok {x : M α} {k : α → Store → SR} (R : EnvR K g env σ) (h : OutS K W D g H (withV x env st k)) :
    Out K rel (WE W σ) g H (x st) fun y H' => ∃ g' v st', StoreR K g' st' H' ∧ Step g H g' H' ∧ EnvR K g' env σ ∧ rel g' y v ∧ OutS K W D g' H' (k v st') := by
  have e : withV x env st k = (match x st with
    | .ok v st' => k v st'
    | .exc c v st' => .exc c v env st'
    | .bad => .bad) := rfl
  rw [e] at h
  revert h
  cases x st with
  | ok v st' => exact fun h y g' H' S T r => ⟨g', v, st', S, T, R.step T, r, h.later T⟩
  | exc c v st' => exact fun h g' H' cls d S T X => h σ g' H' cls d S T (R.step T) X
  | bad => exact fun h => h
/-- an expression's value, then the rest -/
theorem tSt_with {x : IP.Env → M α} {k : IP.Env → α → Store → SR} (h : tSt K W (fun env st => withV (x env) env st (k env)) D σ H) :
    tM K rel W x σ H fun y H' => ∃ g' env v st', StoreR K g' st' H' ∧ EnvR K g' env σ ∧ rel g' y v ∧ OutS K W D g' H' (k env v st') := by
  obtain ⟨g, env, st, S, R, h⟩ := h
  exact ⟨g, env, st, S, R, (withV_ok R h).imp fun y H' ⟨g', v, st', S', T, R', r, q⟩ => ⟨g', env, v, st', S', R', r, q⟩⟩
theorem withV_here {x : M α} {k : α → Store → SR} {y : β} {v : α} {st' : Store} (e : x st = .ok v st') (h : OutS K W D g H (withV x env st k)) : OutS K W D g H (k v st') := by
  have e1 : withV x env st k = (match x st with
    | .ok v st' => k v st'
    | .exc c v st' => .exc c v env st'
    | .bad => .bad) := rfl
  rw [e1, e] at h
  exact h
theorem OutS.nx (h : OutS K W D g H (.ok .next env st)) (S : StoreR K g st H) (R : EnvR K g env σ) : D.nx σ H := h σ g H S (.refl _ _) R
/-- one, then another -/
def seqR (b : SM) (r : SR) : SR := match r with
  | .ok .next e2 st2 => b e2 st2
  | r => r
theorem OutS.seq {b : SM} {r : SR} (h : OutS K W D g H (seqR b r)) : OutS K W { D with nx := fun σ H' => tSt K W b D σ H' } g H r := by
  cases r with
  | ok f env st =>
    cases f with
    | next => exact fun σ' g' H' S T R => ⟨g', env, st, S, R, OutS.later T h⟩
    | brk => exact h
    | cont => exact h
    | ret v => exact h
  | exc c xs env st => exact h
  | bad => exact h
end
theorem PS_imp {X : Cx} {s : Stmt} {t t' : TS} (h : PS X s t) (f : ∀ D σ H, t' D σ H → t D σ H) : PS X s t' := ⟨fun pins s σ H D I q => h.run pins s σ H D I (f D σ H q)⟩
theorem PSs_imp {X : Cx} {s : List Stmt} {t t' : TS} (h : PSs X s t) (f : ∀ D σ H, t' D σ H → t D σ H) : PSs X s t' := ⟨fun pins s σ H D I q => h.run pins s σ H D I (f D σ H q)⟩
theorem PS_no {X : Cx} {s : Stmt} {t' : TS} (f : ∀ D σ H, ¬ t' D σ H) : PS X s t' := ⟨fun pins s σ H D I q => (f D σ H q).elim⟩
section
variable {X : Cx} {W : WX}
theorem PS_to {s : Stmt} {m m' : SM} (h : PS X s (tSt X.K W m)) (q : ∀ env st, m' env st = m env st) : PS X s (tSt X.K W m') := by
  have : m' = m := funext fun env => funext fun st => q env st
  rw [this]
  exact h
theorem PS_bad {s : Stmt} : PS X s (tSt X.K W fun _ _ => .bad) := PS_no fun D σ H ⟨_, _, _, _, _, h⟩ => h
theorem ss_nil : PSs X [] (tSt X.K W (exL (fun _ _ _ => .bad) [])) := PSs_imp pss_nil fun D σ H ⟨g, env, st, S, R, h⟩ => OutS.nx h S R
theorem ss_block {f : Stmt → SM} : ∀ {ss : List Stmt}, (∀ s ∈ ss, PS X s (tSt X.K W (f s))) → PSs X ss (tSt X.K W (exL f ss))
  | [], _ => PSs_imp pss_nil fun D σ H ⟨g, env, st, S, R, h⟩ => OutS.nx h S R
  | s :: ss, h => by
    refine PSs_imp (pss_cons (h s List.mem_cons_self) (ss_block fun s' m => h s' (List.mem_cons_of_mem _ m))) fun D σ H ⟨g, env, st, S, R, q⟩ => ?_
    have q : OutS X.K W D g H (seqR (exL f ss) (f s env st)) := q
    exact ⟨g, env, st, S, R, q.seq⟩
end
structure CtxS (G : Glob) (call : Key2 → List Val → M Val) (k : Nat) (N : List Str) (sc : Scope) (W : WX) (X : Cx) : Prop where
  e : CtxE G call k N sc W X
  hs : X.stack = X.env :: X.outer
  hf : X.env.frame = some X.env.locals
  fn : ∀ x, X.fn x = true
section
variable {G : Glob} {call : Key2 → List Val → M Val} {k : Nat} {N : List Str} {sc : Scope} {W : WX} {X : Cx}
theorem CtxS.wr (C : CtxS G call k N sc W X) : WrOk X (isLoc sc) := fun x h => ⟨by rw [C.e.scope]; exact loc_ok h, .inl (C.fn x)⟩
theorem swaps_no {e : Expr} {t : Option Expr} {l : Nat} {env : PySem.Env} (h : isComp e = false) : swapsWith e t l env = pure false := by
  cases e <;> first | (cases h; done) | rfl
theorem swaps_other {e t : Expr} {l : Nat} {env : PySem.Env} (h : ∀ x p, t ≠ .Name x p) : swapsWith e (some t) l env = pure false := by
  unfold swapsWith
  split
  · split
    · rename_i h2
      cases h2
    · rename_i h2
      cases h2
      exact absurd rfl (h _ _)
    · rfl
  · rfl
theorem isLocal_eq {sc : Scope} {x : Str} : (sc.names.lookup x == some NameKind.local) = isLocal sc x := by
  unfold isLocal
  split
  · rename_i h
    rw [h]
    rfl
  · rename_i h
    exact beq_eq_false_iff_ne.mpr h
theorem sw_false {elt : Expr} {gs : List Comprehension} {scope : Scope} {pos py : Pos} {y : Str} {l : Nat} {env : PySem.Env} (h : (isLocal env.scope y && (py.line == pos.line) && !(scope.names.any fun (n, k) => n == y && (k == .local || k == .cell))) = false) :
    swapsWith (.ListComp elt gs scope pos) (some (.Name y py)) l env = pure false := by
  have e : (env.kindOf y == some NameKind.local) = isLocal env.scope y := isLocal_eq
  unfold swapsWith
  show (pure (env.blockKind == .function && env.kindOf y == some .local && py.line == pos.line && !(scope.names.any fun (n, k) => n == y && (k == .local || k == .cell))) : Sem Bool) = pure false
  rw [e, Bool.and_assoc, Bool.and_assoc, ← Bool.and_assoc (isLocal env.scope y), h, Bool.and_false]
/-! ### plain statements -/
theorem ss_expr {me : IP.Env → M Val} {e : Expr} {pos : Pos} (hc : isComp e = false) (he : PE X e (tE X.K W me)) : PS X (.Expr e pos) (tSt X.K W fun env st => withV (me env) env st fun _ st1 => .ok .next env st1) := by
  refine PS_imp (ps_expr he (swaps_no hc)) fun D σ H h => ?_
  exact tM_imp (tSt_with (rel := RV X.K) h) fun y H' ⟨g', env, v, st', S, R, r, q⟩ => OutS.nx q S R
theorem ss_ret {me : IP.Env → M Val} {e : Expr} {pos : Pos} (he : PE X e (tE X.K W me)) : PS X (.Return (some e) pos) (tSt X.K W fun env st => withV (me env) env st fun v st1 => .ok (.ret v) env st1) := by
  refine PS_imp (ps_ret he) fun D σ H h => ?_
  exact tM_imp (tSt_with (rel := RV X.K) h) fun y H' ⟨g', env, v, st', S, R, r, q⟩ => q y g' H' S (.refl _ _) r
theorem ss_retN {pos : Pos} : PS X (.Return none pos) (tSt X.K W fun env st => .ok (.ret (.d .non)) env st) :=
  PS_imp ps_retN fun D σ H ⟨g, env, st, S, R, h⟩ => h .non g H S (.refl _ _) .non
theorem ss_set (C : CtxS G call k N sc W X) {me : IP.Env → M Val} {x : Str} {i : Nat} {e : Expr} {px pos : Pos} (hx : isLoc sc x = true) (hi : idx N x = some i) (hc : swapsWith e (some (.Name x px)) pos.line X.env = pure false) (he : PE X e (tE X.K W me)) :
    PS X (.Assign [.Name x px] e pos) (tSt X.K W fun env st => withV (me env) env st fun v st1 => .ok .next (env.set i (some v)) st1) := by
  obtain ⟨h1, h2⟩ := C.wr x hx
  refine PS_imp (ps_set C.e.nd (by rw [C.e.hN]; exact idx_ok hi) h1 he hc h2) fun D σ H h => ?_
  exact tM_imp (tSt_with (rel := RV X.K) h) fun y H' ⟨g', env, v, st', S, R, r, q⟩ => OutS.nx q S (R.set r)
theorem ss_setLc (C : CtxS G call k N sc W X) {me : IP.Env → M Val} {x : Str} {i : Nat} {e : Expr} {px pos : Pos} (he : PS X (.Assign [.Name x px] e pos) (tAsg (tE X.K W me) (gName i))) :
    PS X (.Assign [.Name x px] e pos) (tSt X.K W fun env st => withV (me env) env st fun v st1 => .ok .next (env.set i (some v)) st1) := by
  refine PS_imp he fun D σ H h => ?_
  exact tM_imp (tSt_with (rel := RV X.K) h) fun y H' ⟨g', env, v, st', S, R, r, q⟩ => OutS.nx q S (R.set r)
theorem swapsS_other {e t : Expr} {l : Nat} {env : PySem.Env} (h : ∀ x p, t ≠ .Name x p) : swapsWithSole [t] e l env = pure false := swaps_other h
theorem paired_setAt {α β : Type} {F : α → β → Prop} {x : α} {y : β} (h : F x y) : ∀ {l₁ : List α} {l₂ : List β} {i : Nat}, Paired F l₁ l₂ → Paired F (l₁.set i x) (l₂.set i y)
  | _, _, _, .nil => .nil
  | _, _, 0, .cons _ t => .cons h t
  | _, _, i + 1, .cons h' t => .cons h' (paired_setAt h t)
theorem ss_tup (C : CtxS G call k N sc W X) {me : IP.Env → M Val} {es : List Expr} {kk : Nat} {e : Expr} {pt pos : Pos} (ht : isTupE e = false) (he : PE X e (tE X.K W me)) :
    PS X (.Assign [.Tuple es kk pt] e pos) (tSt X.K W fun env st => withV (me env) env st fun v st1 => match bindTg (isLoc sc) N (.Tuple es kk pt) v env with
      | some env1 => .ok .next env1 st1
      | none => .bad) := by
  refine PS_imp (ps_asg he (s_tg (wr := isLoc sc) C.e.hN C.e.nd C.e.calm C.wr) (swapsS_other (fun _ _ z => by cases z)) (by cases e <;> first | (cases ht; done) | rfl) rfl) fun D σ H h => ?_
  refine tM_imp (tSt_with (rel := RV X.K) h) fun y H' ⟨g', env, v, st', S, R, r, q⟩ => ?_
  cases hb : bindTg (isLoc sc) N (.Tuple es kk pt) v env with
  | none =>
    rw [hb] at q
    exact q.elim
  | some env1 =>
    rw [hb] at q
    exact ⟨g', env, v, env1, R, r, S.sub, hb, fun σ' R' _ => OutS.nx q S R'⟩
theorem setItem_ok {D : Ends} {g : GS} {H : Hp} {o i v : Val} {env : IP.Env} {st : Store} (h : OutS X.K W D g H (setItemM o i v env st)) : ∃ n k xs j, o = .r n ∧ i = .d (.int k) ∧ st[n]? = some (.lst xs) ∧ ixN xs.length k = some j ∧ OutS X.K W D g H (.ok .next env (st.set n (.lst (xs.set j v)))) := by
  unfold setItemM at h
  split at h
  · rename_i n k
    split at h
    · rename_i xs e
      split at h
      · rename_i j e2
        exact ⟨n, k, xs, j, rfl, rfl, e, e2, h⟩
      · exact h.elim
    · exact h.elim
  · exact h.elim
theorem ss_item {me mo mi : IP.Env → M Val} {o i e : Expr} {pt pos : Pos} (hsl : ∀ l h s p, i ≠ .Slice l h s p) (he : PE X e (tE X.K W me)) (ho : PE X o (tE X.K W mo)) (hi : PE X i (tE X.K W mi)) :
    PS X (.Assign [.Subscript o i pt] e pos) (tSt X.K W fun env st => withV (me env) env st fun v st1 => withV (mo env) env st1 fun ov st2 => withV (mi env) env st2 fun iv st3 => setItemM ov iv v env st3) := by
  refine PS_imp (ps_asg he (pg_sub ho hi set_list (by intro v; cases i <;> first | rfl | exact absurd rfl (hsl _ _ _ _))) (swapsS_other (fun _ _ z => by cases z)) rfl rfl) fun D σ H h => ?_
  refine tM_imp (tSt_with (rel := RV X.K) h) fun y H1 ⟨g1, env, v, st1, S1, R1, r1, q⟩ => ?_
  refine ⟨g1, env, st1, S1, R1, (withV_ok (rel := RV X.K) R1 q).imp fun ov H2 ⟨g2, v2, st2, S2, T2, R2, r2, q⟩ => ?_⟩
  refine ⟨g2, env, st2, S2, R2, (withV_ok (rel := RV X.K) R2 q).imp fun iv H3 ⟨g3, v3, st3, S3, T3, R3, r3, q⟩ => ?_⟩
  obtain ⟨n, kk, xs, j, rfl, rfl, e1, e2, q⟩ := setItem_ok q
  obtain ⟨a, rfl, e3, ys, hH, hr⟩ := (r2.step T3).cellAt S3 e1
  cases (show iv = .int kk from RD.int_inv r3)
  have hl : ys.length = xs.length := Paired.length hr
  obtain ⟨S4, T4⟩ := S3.write (.lst (ys.set j y)) (c := .lst (xs.set j v)) e3 ⟨_, upd_self, paired_setAt ((r1.step T2).step T3) hr⟩
  exact ⟨a, ys, kk, j, rfl, rfl, hH, by rw [hl]; exact e2, q σ _ _ S4 T4 (R3.step T4)⟩
theorem putZ_fst {α β : Type} {f : Str} {v : α} {w : β} : ∀ {ns : List Str} {xs : List α} {ys : List β}, ns.length = xs.length → ns.length = ys.length → (putZ f v ns xs).1 = (putZ f w ns ys).1
  | [], [], [], _, _ => rfl
  | n :: ns, x :: xs, y :: ys, h1, h2 => by
    unfold putZ
    by_cases e : n = f
    · rw [if_pos e, if_pos e]
    · rw [if_neg e, if_neg e]
      dsimp only
      rw [putZ_fst (f := f) (v := v) (w := w) (ns := ns) (by simpa using h1) (by simpa using h2)]
theorem putF_zip {g : GS} {f : Str} {y : V} {v : Val} (r : RV X.K g y v) : ∀ {fs : List (Str × V)} {xs : List Val}, RVs X.K g (fs.map (·.2)) xs → (putF f y fs).map (·.1) = (putZ f v (fs.map (·.1)) xs).1 ∧ RVs X.K g ((putF f y fs).map (·.2)) (putZ f v (fs.map (·.1)) xs).2
  | [], xs, h => by
    have e : xs = [] := by
      cases xs with
      | nil => rfl
      | cons _ _ => cases h
    subst e
    exact ⟨rfl, .cons r .nil⟩
  | (n, z) :: fs, x :: xs, .cons h t => by
    show (putF f y ((n, z) :: fs)).map (·.1) = (putZ f v (n :: fs.map (·.1)) (x :: xs)).1 ∧ RVs X.K g ((putF f y ((n, z) :: fs)).map (·.2)) (putZ f v (n :: fs.map (·.1)) (x :: xs)).2
    by_cases e : n = f
    · have e1 : putF f y ((n, z) :: fs) = (n, y) :: fs := by
        unfold putF
        simp [e]
      unfold putZ
      rw [if_pos e, e1]
      exact ⟨rfl, .cons r t⟩
    · have e1 : putF f y ((n, z) :: fs) = (n, z) :: putF f y fs := by
        conv => lhs; unfold putF
        simp [e]
      obtain ⟨h1, h2⟩ := putF_zip r t
      unfold putZ
      rw [if_neg e, e1]
      exact ⟨by simp only [List.map_cons]; rw [h1], .cons h h2⟩
theorem ss_fld (C : CtxS G call k N sc W X) {me mo : IP.Env → M Val} {o e : Expr} {f : Str} {pt pos : Pos} (he : PE X e (tE X.K W me)) (ho : PE X o (tE X.K W mo)) :
    PS X (.Assign [.Attribute o f pt] e pos) (tSt X.K W fun env st => withV (me env) env st fun v st1 => withV (mo env) env st1 fun ov st2 => setFieldM G.flds ov f v env st2) := by
  refine PS_imp (ps_fld ho he (swaps_other (fun _ _ z => by cases z))) fun D σ H h => ?_
  refine tM_imp (tSt_with (rel := RV X.K) h) fun y H1 ⟨g1, env, v, st1, S1, R1, r1, q⟩ => ?_
  refine ⟨g1, env, st1, S1, R1, (withV_ok (rel := RV X.K) R1 q).imp fun ov H2 ⟨g2, v2, st2, S2, T2, R2, r2, q⟩ => ?_⟩
  unfold setFieldM at q
  split at q
  · rename_i n
    split at q
    · rename_i c ns xs e1
      split at q
      · rename_i hc
        obtain ⟨h1, h2⟩ := C.e.glob.flds c f hc.1
        obtain ⟨a, rfl, e3, dx, fs, hH, hn, hr⟩ := r2.cellAt S2 e1
        subst hn
        obtain ⟨p1, p2⟩ := putF_zip (f := f) (r1.step T2) hr
        obtain ⟨S4, T4⟩ := S2.write (.ins (He.ga X.K c) dx (putF f y fs)) (c := .obj c (putZ f v (fs.map (·.1)) xs).1 (putZ f v (fs.map (·.1)) xs).2) e3 ⟨dx, _, upd_self, p1, p2⟩
        refine ⟨a, _, dx, fs, rfl, hH, h1, h2, ?_, q σ _ _ S4 T4 (R2.step T4)⟩
        have := hc.2.1
        rw [List.length_map] at this
        omega
      · exact q.elim
    · exact q.elim
  · exact q.elim
theorem ss_aug (C : CtxS G call k N sc W X) {me : IP.Env → M Val} {x : Str} {i : Nat} {op : Operator} {e : Expr} {px pos : Pos} (hx : isLoc sc x = true) (hi : idx N x = some i) (ho : plainAug op = true) (he : PE X e (tE X.K W me)) :
    PS X (.AugAssign (.Name x px) op e pos) (tSt X.K W fun env st => match env[i]? with
          | some (some (.d (.int a))) => withV (me env) env st fun v st1 => match v with
            | .d (.int b) => withV (liftO (binI op a b)) env st1 fun v st2 => .ok .next (env.set i (some v)) st2
            | _ => .bad
          | _ => .bad) := by
  obtain ⟨h1, h2⟩ := C.wr x hx
  have hN : X.N[i]? = some x := by rw [C.e.hN]; exact idx_ok hi
  have key : ∀ {ti : TIp}, PIp X op ti → (∀ (a b : Int) (g : GS) (H : Hp) (st : Store) (env : IP.Env) (σ : L2.St) (D : Ends), StoreR X.K g st H → EnvR X.K g env σ → OutS X.K W D g H (withV (liftO (binI op a b)) env st fun v st2 => .ok .next (env.set i (some v)) st2) → ti (.int a) (.int b) H fun z H2 => D.nx (σ.set i (some z)) H2) →
      PS X (.AugAssign (.Name x px) op e pos) (tSt X.K W fun env st => match env[i]? with
          | some (some (.d (.int a))) => withV (me env) env st fun v st1 => match v with
            | .d (.int b) => withV (liftO (binI op a b)) env st1 fun v st2 => .ok .next (env.set i (some v)) st2
            | _ => .bad
          | _ => .bad) := by
    intro ti hp hq
    refine PS_imp (ps_aug C.e.nd hN h1 he hp h2) fun D σ H h => ?_
    obtain ⟨g, env, st, S, R, q⟩ := h
    have q : OutS X.K W D g H (match env[i]? with
          | some (some (.d (.int a))) => withV (me env) env st fun v st1 => match v with
            | .d (.int b) => withV (liftO (binI op a b)) env st1 fun v st2 => .ok .next (env.set i (some v)) st2
            | _ => .bad
          | _ => .bad) := q
    split at q
    · rename_i a ea
      obtain ⟨y, e1, r⟩ := R.2 i _ ea
      cases (show y = .int a from RD.int_inv r)
      refine ⟨.int a, e1, g, env, st, S, R, (withV_ok (rel := RV X.K) R q).imp fun z H1 ⟨g1, v, st1, S1, T1, R1, r1, q⟩ => ?_⟩
      cases v with
      | d dv =>
        cases dv with
        | int b =>
          cases (show z = .int b from RD.int_inv r1)
          exact hq a b g1 H1 st1 env σ D S1 R1 q
        | _ => exact q.elim
      | _ => exact q.elim
    · exact q.elim
  unfold plainAug at ho
  split at ho
  · refine key ip_add fun a b g H st env σ D S R q => ⟨a, b, rfl, rfl, ?_⟩
    have q : OutS X.K W D g H (.ok .next (env.set i (some (.d (.int (a + b))))) st) := q
    exact OutS.nx q S (R.set (show RV X.K g (.int (a + b)) (.d (.int (a + b))) from .int _))
  · refine key ip_sub fun a b g H st env σ D S R q => ⟨a, b, rfl, rfl, ?_⟩
    have q : OutS X.K W D g H (.ok .next (env.set i (some (.d (.int (a - b))))) st) := q
    exact OutS.nx q S (R.set (show RV X.K g (.int (a - b)) (.d (.int (a - b))) from .int _))
  · cases ho
theorem ss_if {mt : IP.Env → M Bool} {ma mb : SM} {c : Expr} {a b : List Stmt} {pos : Pos} (hc : PT X c (tT X.K W mt)) (ha : PSs X a (tSt X.K W ma)) (hb : PSs X b (tSt X.K W mb)) :
    PS X (.If c a b pos) (tSt X.K W fun env st => withV (mt env) env st fun t st1 => if t then ma env st1 else mb env st1) := by
  refine PS_imp (ps_if hc ha hb) fun D σ H h => ?_
  refine tM_imp (tSt_with (rel := relB) h) fun y H' ⟨g', env, v, st', S, R, r, q⟩ => ?_
  have r : y = v := r
  subst r
  cases y with
  | true => exact ⟨g', env, st', S, R, q⟩
  | false => exact ⟨g', env, st', S, R, q⟩
end
end IP

set_option maxHeartbeats 4000000
/-! IP25: loops, try; every statement. -/
namespace IP
open PySem PySem.Spec PyProof.Rows L2
section
variable {K : PySem.W.Frag} {W : WX} {D : Ends} {g g1 : GS} {H H1 : Hp}
/-- a turn of a loop, then the rest b -/
def turnR (b : SM) (r : SR) : SR := match r with
  | .ok .next e2 st2 => b e2 st2
  | .ok .cont e2 st2 => b e2 st2
  | .ok .brk e2 st2 => .ok .next e2 st2
  | r => r
theorem OutS.turn {b : SM} {r : SR} {P : L2.St → Hp → Prop} (h : OutS K W D g H (turnR b r)) (hP : ∀ σ g' H' env st, StoreR K g' st H' → Step g H g' H' → EnvR K g' env σ → OutS K W D g H (b env st) → P σ H') :
    OutS K W { D with nx := P, ct := P, bk := D.nx } g H r := by
  cases r with
  | ok f env st =>
    cases f with
    | next => exact fun σ' g' H' S T R => hP σ' g' H' env st S T R h
    | cont => exact fun σ' g' H' S T R => hP σ' g' H' env st S T R h
    | brk => exact h
    | ret v => exact h
  | exc c xs env st => exact h
  | bad => exact h
end
section
variable {G : Glob} {call : Key2 → List Val → M Val} {k : Nat} {N : List Str} {sc : Scope} {W : WX} {X : Cx}
theorem ss_for (C : CtxS G call k N sc W X) {mi : IP.Env → M (List Val)} {mb : SM} {tg iter : Expr} {body : List Stmt} {pos : Pos} (hs : isSetE iter = false) (hi : PI X tg iter (tS X.K W mi)) (hb : PSs X body (tSt X.K W mb)) :
    PS X (.For tg iter body [] pos) (tSt X.K W fun env st => withV (mi env) env st fun items st1 => forLoop (bindTg (isLoc sc) N tg) mb items env st1) := by
  refine PS_imp (ps_for C.e.own C.e.calm hi (s_tg (wr := isLoc sc) C.e.hN C.e.nd C.e.calm C.wr) hb (fold_ok hs)) fun D σ H h => ?_
  refine tM_imp (tSt_with (rel := relS X.K) h) fun J H1 ⟨g1, env1, items, st1, S1, R1, w, q⟩ => ?_
  refine for_it w (fun i σ H => ∃ g env st, StoreR X.K g st H ∧ EnvR X.K g env σ ∧ Step g1 H1 g H ∧ OutS X.K W D g1 H1 (forLoop (bindTg (isLoc sc) N tg) mb (items.drop i) env st)) ?_ ?_ ?_ ?_
  · exact ⟨g1, env1, st1, S1, R1, .refl _ _, q⟩
  · rintro i σ H _ ⟨g, env, st, S, R, T, _⟩
    exact T.sub.trans S.sub
  · rintro i x σ H H' hi ⟨g, env, st, S, R, T, q⟩ ⟨v, ev, hy⟩
    obtain ⟨g2, S2, T2, r2⟩ := hy g st S T.sub T.pre
    have hd : items.drop i = v :: items.drop (i + 1) := by
      have hi' : i < items.length := hi
      rw [List.drop_eq_getElem_cons hi']
      rw [List.getElem?_eq_getElem hi'] at ev
      cases ev
      rfl
    rw [hd] at q
    have q : OutS X.K W D g1 H1 (match bindTg (isLoc sc) N tg v env with
      | none => .bad
      | some e1 => turnR (forLoop (bindTg (isLoc sc) N tg) mb (items.drop (i + 1))) (mb e1 st)) := q
    cases hbd : bindTg (isLoc sc) N tg v env with
    | none =>
      rw [hbd] at q
      exact q.elim
    | some e1 =>
      rw [hbd] at q
      refine ⟨g2, env, v, e1, R.step T2, r2, S2.sub, hbd, fun σ' R' _ => ⟨g2, e1, st, S2, R', OutS.later (T.trans T2) ?_⟩⟩
      exact OutS.turn q fun σ g' H' env' st' S' T' R' q' => ⟨g', env', st', S', R', T', q'⟩
  · rintro σ H ⟨g, env, st, S, R, T, q⟩
    rw [List.drop_length] at q
    exact q σ g H S T R
theorem withV_base {K : PySem.W.Frag} {α β : Type} {rel : GS → β → α → Prop} {D : Ends} {g0 g : GS} {H0 H : Hp} {σ : L2.St} {env : IP.Env} {st : Store} {x : M α} {kk : α → Store → SR} (T : Step g0 H0 g H) (R : EnvR K g env σ) (h : OutS K W D g0 H0 (withV x env st kk)) :
    Out K rel (WE W σ) g H (x st) fun y H' => ∃ g' v st', StoreR K g' st' H' ∧ Step g0 H0 g' H' ∧ EnvR K g' env σ ∧ rel g' y v ∧ OutS K W D g0 H0 (kk v st') := by
  have e : withV x env st kk = (match x st with
    | .ok v st' => kk v st'
    | .exc c v st' => .exc c v env st'
    | .bad => .bad) := rfl
  rw [e] at h
  revert h
  cases x st with
  | ok v st' => exact fun h y g' H' S T1 r => ⟨g', v, st', S, T.trans T1, R.step T1, r, h⟩
  | exc c v st' => exact fun h g' H' cls d S T1 X => h σ g' H' cls d S (T.trans T1) (R.step T1) X
  | bad => exact fun h => h
theorem ss_while (C : CtxS G call k N sc W X) {mc : IP.Env → M Bool} {mb : SM} {wl : Nat} {c : Expr} {body : List Stmt} {pos : Pos} (hc : PT X c (tT X.K W mc)) (hb : PSs X body (tSt X.K W mb)) :
    PS X (.While c body [] pos) (tSt X.K W fun env st => whileLoop mc mb wl env st) := by
  refine PS_imp (ps_while C.e.own hc hb) fun D σ H0 h => ?_
  obtain ⟨g0, env0, st0, S0, R0, q0⟩ := h
  refine ⟨fun m σ H => ∃ g env st, StoreR X.K g st H ∧ EnvR X.K g env σ ∧ Step g0 H0 g H ∧ OutS X.K W D g0 H0 (whileLoop mc mb m env st), ⟨wl, g0, env0, st0, S0, R0, .refl _ _, q0⟩, ?_⟩
  rintro m σ H ⟨g, env, st, S, R, T, q⟩
  cases m with
  | zero => exact q.elim
  | succ m =>
    have q : OutS X.K W D g0 H0 (withV (mc env) env st fun b st1 => if b then turnR (whileLoop mc mb m) (mb env st1) else .ok .next env st1) := q
    refine ⟨g, env, st, S, R, (withV_base (rel := relB) T R q).imp fun b H1 ⟨g1, b', st1, S1, T1, R1, rb, q⟩ => ?_⟩
    have rb : b = b' := rb
    subst rb
    cases b with
    | false => exact q σ g1 H1 S1 T1 R1
    | true =>
      have q : OutS X.K W D g0 H0 (turnR (whileLoop mc mb m) (mb env st1)) := q
      refine ⟨fun σ' H' => ∃ g env st, StoreR X.K g st H' ∧ EnvR X.K g env σ' ∧ Step g0 H0 g H' ∧ OutS X.K W D g0 H0 (whileLoop mc mb m env st), fun σ' H' h => ⟨m, Nat.lt_succ_self _, h⟩, g1, env, st1, S1, R1, OutS.later T1 ?_⟩
      exact OutS.turn q fun σ g' H' env' st' S' T' R' q' => ⟨g', env', st', S', R', T', q'⟩
theorem CtxS.tr (C : CtxS G call k N sc W X) {W' : WX} {pn : List (Addr × Obj)} {xe : Value → Shared → Prop} (t : Takes (X.tr pn xe) W') (o : PassesOwn (model X.prog X.w) X.A X.env xe) : CtxS G call k N sc W' (X.tr pn xe) where
  e := { hN := C.e.hN, nd := C.e.nd, scope := C.e.scope, calm := C.e.calm, tk := t, room := C.e.room, glob := C.e.glob, fns := C.e.fns, own := o, len := C.e.len }
  hs := C.hs
  hf := C.hf
  fn := C.fn
theorem ss_try (C : CtxS G call k N sc W X) {mb : SM} {x : Str} {body suite : List Stmt} {b0 : Stmt} {np pos pos' : Pos} (h0 : okName x = true) (hg : isGl sc x = true) (hx : x ∈ G.excs)
    (hb : ∀ {W' : WX} {X' : Cx}, CtxS G call k N sc W' X' → X'.K = X.K → PSs X' body (tSt X.K W' mb)) :
    PS X (.Try body [.ExceptHandler (some (.Name x np)) none (b0 :: suite) pos'] [] [] pos) (tSt X.K W fun env st => noExcS (mb env st)) := by
  obtain ⟨u, hu⟩ := C.e.glob.excs x hx
  refine PS_imp (ps_try_only (tb := fun W' => tSt X.K W' mb) (ts := fun _ _ _ => tNever) C.hs C.hf ⟨gl_ok C.e hg, (okName_ok h0).1, .inl hu⟩ C.e.tk (fun W' pn xe t o => hb (C.tr t o) rfl) fun a oe cls d pn _ _ => pss_never) fun D σ H h => ?_
  obtain ⟨g, env, st, S, R, q⟩ := h
  refine ⟨g, env, st, S, R, ?_⟩
  have q : OutS X.K W D g H (noExcS (mb env st)) := q
  revert q
  cases mb env st with
  | ok f e2 st2 => exact fun q => by cases f <;> exact q
  | exc c xs e2 st2 => exact fun q => q.elim
  | bad => exact fun q => q
end
/-! ### every statement -/
section
variable {G : Glob} {call : Key2 → List Val → M Val} {k : Nat} {wl : Nat}
def SoundS (G : Glob) (call : Key2 → List Val → M Val) (k wl n : Nat) : Prop := ∀ {N : List Str} {sc : Scope} {W : WX} {X : Cx}, CtxS G call k N sc W X → ∀ s, PS X s (tSt X.K W (ex G call wl N sc n s))
theorem sound_set {n : Nat} {N : List Str} {sc : Scope} {W : WX} {X : Cx} (C : CtxS G call k N sc W X) {x : Str} {e : Expr} {px pos : Pos} : PS X (.Assign [.Name x px] e pos) (tSt X.K W (ex G call wl N sc (n + 1) (.Assign [.Name x px] e pos))) := by
  by_cases h0 : (isLoc sc x && compOk e) = true
  case neg =>
    exact PS_to PS_bad fun env st => by
      show (if isLoc sc x && compOk e then _ else SR.bad) = _
      rw [if_neg h0]
  have hh := h0
  simp only [Bool.and_eq_true] at hh
  cases hi : idx N x with
  | none =>
    exact PS_to PS_bad fun env st => by
      show (if isLoc sc x && compOk e then (match idx N x with | some i => _ | none => SR.bad) else SR.bad) = _
      rw [if_pos h0, hi]
  | some i =>
    have key : PS X (.Assign [.Name x px] e pos) (tSt X.K W fun env st => withV (ev G call 100 N sc e env) env st fun v st1 => .ok .next (env.set i (some v)) st1) := by
      by_cases hc : isComp e = true
      case neg => exact ss_set C hh.1 hi (swaps_no (by simpa using hc)) ((sound_ev 100).1 C.e e)
      cases e <;> first | (cases hc; done) | skip
      case ListComp elt gens scope p =>
        by_cases h2 : (isLocal sc x && (px.line == p.line) && !(scope.names.any fun (n, k) => n == x && (k == .local || k == .cell))) = true
        case neg => exact ss_set C hh.1 hi (sw_false (by rw [C.e.scope]; exact Bool.eq_false_iff.mpr h2)) ((sound_ev 100).1 C.e _)
        simp only [Bool.and_eq_true, Bool.not_eq_true'] at h2
        have noGood : (∀ env, ev G call 100 N sc (.ListComp elt gens scope p) env = bad) → PS X (.Assign [.Name x px] (.ListComp elt gens scope p) pos) (tSt X.K W fun env st => withV (ev G call 100 N sc (.ListComp elt gens scope p) env) env st fun v st1 => .ok .next (env.set i (some v)) st1) := fun hz =>
          PS_to PS_bad fun env st => by
            rw [hz env]
            rfl
        match gens with
        | [⟨tg, iter, ifs, .ofNat 0⟩] =>
          by_cases hb : blkC N sc scope (ownOf N scope.names) = true
          case neg =>
            refine noGood fun env => ?_
            show (if blkC N sc scope (ownOf N scope.names) then _ else bad) = bad
            rw [if_neg hb]
          by_cases hs : isSetE iter = true
          case pos =>
            refine noGood fun env => ?_
            show (if blkC N sc scope (ownOf N scope.names) then (srcOf G sc (fun e => ev G call 99 N sc e env) tg iter >>= _) else bad) = bad
            rw [if_pos hb]
            unfold srcOf
            rw [if_pos hs]
            rfl
          refine ss_setLc C ?_
          have L := sound_lcOk (elt := elt) (tg := tg) (ifs := ifs) (sound_ev (G := G) (call := call) (k := k) 99).1 (sound_ev 99).2 C.e hb (by simpa using hs)
          have z := s_setLc (pos := p) (spos := pos) (py := px) C.e L hi (local_ok h2.1.1) h2.1.2 h2.2
          have e9 : (fun env => ev G call 100 N sc (.ListComp elt [⟨tg, iter, ifs, .ofNat 0⟩] scope p) env) = (fun env => srcOf G sc (fun e => ev G call 99 N sc e env) tg iter >>= fun items => if items.length ≤ lim then compLoop (fun v => bindTg (isLoc scope) N tg v (wipeE env ((ownOf N scope.names).map (·.2)))) (condOf (fun c e1 => evT G call 99 N (L2.relS scope sc) c e1) ifs) (fun e1 => ev G call 99 N (L2.relS scope sc) elt e1) items >>= fun ds => cellM G p (ds.map Val.d) else bad) := by
            funext env
            show (if blkC N sc scope (ownOf N scope.names) then _ else bad) = _
            rw [if_pos hb]
          have e10 : ev G call 100 N sc (.ListComp elt [⟨tg, iter, ifs, .ofNat 0⟩] scope p) = _ := e9
          rw [e10]
          exact z
        | [] => exact noGood fun env => rfl
        | [⟨tg, iter, ifs, .ofNat (_ + 1)⟩] => exact noGood fun env => rfl
        | [⟨tg, iter, ifs, .negSucc _⟩] => exact noGood fun env => rfl
        | ⟨_, _, _, .ofNat 0⟩ :: _ :: _ => exact noGood fun env => rfl
        | ⟨_, _, _, .ofNat (_ + 1)⟩ :: _ :: _ => exact noGood fun env => rfl
        | ⟨_, _, _, .negSucc _⟩ :: _ :: _ => exact noGood fun env => rfl
      all_goals
        exfalso
        exact absurd hh.2 (by simp [compOk, isComp])
    refine PS_to key fun env st => ?_
    show (if isLoc sc x && compOk e then (match idx N x with | some i => _ | none => SR.bad) else SR.bad) = _
    rw [if_pos h0, hi]
theorem try_ok {hs : List ExceptHandler} {els fi : List Stmt} {x : Str} (h : tryName hs els fi = some x) : ∃ np b0 suite pos', hs = [.ExceptHandler (some (.Name x np)) none (b0 :: suite) pos'] ∧ els = [] ∧ fi = [] := by
  unfold tryName at h
  split at h
  · cases h
    exact ⟨_, _, _, _, rfl, rfl, rfl⟩
  · cases h
theorem sound_ex : ∀ n, SoundS G call k wl n
  | 0 => fun C s => PS_to PS_bad fun env st => rfl
  | n + 1 => by
    have ih : SoundS G call k wl n := sound_ex n
    have hE : SoundE G call k 100 := (sound_ev 100).1
    have hT : SoundT G call k 100 := (sound_ev 100).2
    intro C s
    rename_i N sc W X
    have blk : ∀ ss, PSs X ss (tSt X.K W (exL (ex G call wl N sc n) ss)) := fun ss => ss_block fun s _ => ih C s
    cases s with
    | Expr e pos =>
      have gen : (∀ env st, ex G call wl N sc (n + 1) (.Expr e pos) env st = if isComp e then SR.bad else withV (ev G call 100 N sc e env) env st fun _ st1 => .ok .next env st1) → PS X (.Expr e pos) (tSt X.K W (ex G call wl N sc (n + 1) (.Expr e pos))) := fun hz => by
        by_cases hc : isComp e = true
        · exact PS_to PS_bad fun env st => by rw [hz, if_pos hc]
        · exact PS_to (ss_expr (by simpa using hc) (hE C.e e)) fun env st => by rw [hz, if_neg hc]
      cases e with
      | Constant c j p =>
        cases c with
        | str x => exact PS_imp ps_doc fun D σ H ⟨g, env, st, S, R, h⟩ => OutS.nx h S R
        | _ => exact gen fun env st => rfl
      | _ => exact gen fun env st => rfl
    | Return e pos =>
      cases e with
      | some e => exact PS_to (ss_ret (hE C.e e)) fun env st => rfl
      | none => exact PS_to ss_retN fun env st => rfl
    | Assign ts e pos =>
      match ts with
      | [t] =>
        cases t with
        | Name x px => exact sound_set C
        | Tuple es kk pt =>
          by_cases hc : (isTupE e || isComp e) = true
          · exact PS_to PS_bad fun env st => by
              show (if isTupE e || isComp e then SR.bad else _) = _
              rw [if_pos hc]
          · have hh := hc
            simp only [Bool.or_eq_true, not_or, Bool.not_eq_true] at hh
            refine PS_to (ss_tup C hh.1 (hE C.e e)) fun env st => ?_
            show (if isTupE e || isComp e then SR.bad else _) = _
            rw [if_neg hc]
            all_goals rfl
        | Subscript o i pt =>
          have gen : (∀ l h s p, i ≠ .Slice l h s p) → (∀ env st, ex G call wl N sc (n + 1) (.Assign [.Subscript o i pt] e pos) env st = if isComp e then SR.bad else withV (ev G call 100 N sc e env) env st fun v st1 =>
              withV (ev G call 100 N sc o env) env st1 fun ov st2 => withV (ev G call 100 N sc i env) env st2 fun iv st3 => setItemM ov iv v env st3) → PS X (.Assign [.Subscript o i pt] e pos) (tSt X.K W (ex G call wl N sc (n + 1) (.Assign [.Subscript o i pt] e pos))) := fun hsl hz => by
            by_cases hc : isComp e = true
            · exact PS_to PS_bad fun env st => by rw [hz, if_pos hc]
            · exact PS_to (ss_item hsl (hE C.e e) (hE C.e o) (hE C.e i)) fun env st => by rw [hz, if_neg hc]
          cases i with
          | Slice lo hi st p2 => exact PS_to PS_bad fun env st => rfl
          | _ => exact gen (fun _ _ _ _ z => by cases z) fun env st => rfl
        | Attribute o f pt =>
          by_cases hc : isComp e = true
          · exact PS_to PS_bad fun env st => by
              show (if isComp e then SR.bad else _) = _
              rw [if_pos hc]
          · refine PS_to (ss_fld C (hE C.e e) (hE C.e o)) fun env st => ?_
            show (if isComp e then SR.bad else _) = _
            rw [if_neg hc]
        | _ => exact PS_to PS_bad fun env st => rfl
      | [] => exact PS_to PS_bad fun env st => rfl
      | t :: u :: r =>
        cases t <;> first | exact PS_to PS_bad fun env st => rfl | skip
        rename_i o i p
        cases i <;> exact PS_to PS_bad fun env st => rfl
    | AugAssign t op e pos =>
      cases t with
      | Name x px =>
        by_cases h0 : (isLoc sc x && plainAug op) = true
        case neg =>
          exact PS_to PS_bad fun env st => by
            show (if isLoc sc x && plainAug op then _ else SR.bad) = _
            rw [if_neg h0]
        have hh := h0
        simp only [Bool.and_eq_true] at hh
        cases hi : idx N x with
        | none =>
          exact PS_to PS_bad fun env st => by
            show (if isLoc sc x && plainAug op then (match idx N x with | some i => _ | none => SR.bad) else SR.bad) = _
            rw [if_pos h0, hi]
        | some i =>
          refine PS_to (ss_aug C hh.1 hi hh.2 (hE C.e e)) fun env st => ?_
          show (if isLoc sc x && plainAug op then (match idx N x with | some i => _ | none => SR.bad) else SR.bad) = _
          rw [if_pos h0, hi]
          all_goals rfl
      | _ => exact PS_to PS_bad fun env st => rfl
    | If c a b pos => exact PS_to (ss_if (hT C.e c) (blk a) (blk b)) fun env st => rfl
    | For tg iter body els pos =>
      cases els with
      | cons _ _ => exact PS_to PS_bad fun env st => rfl
      | nil =>
        by_cases hs : isSetE iter = true
        · refine PS_to PS_bad fun env st => ?_
          show withV (srcOf G sc (fun e => ev G call 100 N sc e env) tg iter) env st _ = _
          unfold srcOf
          rw [if_pos hs]
          rfl
        · exact PS_to (ss_for C (by simpa using hs) (s_src C.e (mf := ev G call 100 N sc) (hE C.e iter) fun f args kws pos e a _ => hE C.e a) (blk body)) fun env st => rfl
    | While c body els pos =>
      cases els with
      | cons _ _ => exact PS_to PS_bad fun env st => rfl
      | nil => exact PS_to (ss_while C (hT C.e c) (blk body)) fun env st => rfl
    | Pass pos => exact PS_imp ps_pass fun D σ H ⟨g, env, st, S, R, h⟩ => OutS.nx h S R
    | Break pos => exact PS_imp ps_break fun D σ H ⟨g, env, st, S, R, h⟩ => h σ g H S (.refl _ _) R
    | Continue pos => exact PS_imp ps_continue fun D σ H ⟨g, env, st, S, R, h⟩ => h σ g H S (.refl _ _) R
    | Try body hs els fin pos =>
      cases hn : tryName hs els fin with
      | none =>
        exact PS_to PS_bad fun env st => by
          show (match tryName hs els fin with | some x => _ | none => SR.bad) = _
          rw [hn]
      | some x =>
        obtain ⟨np, b0, suite, pos', rfl, rfl, rfl⟩ := try_ok hn
        by_cases h0 : (isGl sc x && okName x && decide (x ∈ G.excs)) = true
        case neg =>
          exact PS_to PS_bad fun env st => by
            show (if isGl sc x && okName x && decide (x ∈ G.excs) then _ else SR.bad) = _
            rw [if_neg h0]
        have hh := h0
        simp only [Bool.and_eq_true, decide_eq_true_eq] at hh
        refine PS_to (ss_try C (mb := exL (ex G call wl N sc n) body) hh.1.2 hh.1.1 hh.2 fun {W' X'} C' hK => ?_) fun env st => ?_
        · rw [← hK]
          exact ss_block fun s _ => ih C' s
        · show (if isGl sc x && okName x && decide (x ∈ G.excs) then _ else SR.bad) = _
          rw [if_pos h0]
    | _ => exact PS_to PS_bad fun env st => rfl
end
end IP

set_option maxHeartbeats 4000000
/-! IP26: defs keep what the interpreter says. -/
namespace IP
open PySem PySem.Spec PyProof.Rows L2
section
variable {K : PySem.W.Frag} {g g' : GS} {H H' : Hp} {st st' : Store} {E : XK} {Q : VK}
/-- behind the body -/
theorem fin_ok {keep : Bool} {v : Val} {x : V} (S0 : StoreR K g st H) (h : Out K (RV K) E g H (fin st.length keep v st') Q) (S : StoreR K g' st' H') (T : Step g H g' H') (r : RV K g' x v) : Q x H' := by
  have hn : st.length = g.ad.length := (Paired.length S0.cells).symm
  have low : ∀ v : Val, Val.low st.length v = true → RV K g' x v → Out K (RV K) E g H (.ok v (trunc st.length st')) Q → Q x H' := fun v hl r h => by
    unfold trunc at h
    by_cases q : (st'.take st.length).all (Cell.low st.length) = true
    · rw [if_pos q] at h
      exact h x _ _ (S.trunc q) (T.back hn) (RV.trunc (g := g') r hl)
    · rw [if_neg q] at h
      exact h x _ _ S T r
  cases v with
  | d dv => exact low (.d dv) rfl r h
  | ty s => exact low (.ty s) rfl r h
  | scr ns => exact low (.scr ns) rfl r h
  | r n =>
    have h : Out K (RV K) E g H (if n < st.length then .ok (.r n) (trunc st.length st') else if keep then .ok (.r n) st' else match st'[n]? with
      | some (.lst xs) => (match pureL xs with
        | some ds => if (st'.take st.length).all (Cell.low st.length) then .ok (.d (.lst ds)) (st'.take st.length) else .bad
        | none => .bad)
      | _ => .bad) Q := h
    by_cases q : n < st.length
    · rw [if_pos q] at h
      exact low (.r n) (by simp [Val.low, q]) r h
    · rw [if_neg q] at h
      cases keep with
      | true => exact h x _ _ S T r
      | false =>
        rw [if_neg (by simp)] at h
        cases e : st'[n]? with
        | none =>
          rw [e] at h
          exact h.elim
        | some c =>
          rw [e] at h
          cases c with
          | obj _ _ _ => exact h.elim
          | lst xs =>
            dsimp only at h
            cases hp : pureL xs with
            | none =>
              rw [hp] at h
              exact h.elim
            | some ds =>
              rw [hp] at h
              dsimp only at h
              by_cases hl : (st'.take st.length).all (Cell.low st.length) = true
              · rw [if_pos hl] at h
                obtain ⟨a, rfl, ha, ys, hH, hr⟩ := r.cellAt S e
                have S3 := S.trunc hl
                have T3 := T.back hn
                have hB : g'.B a = none := S.off a (List.mem_of_getElem? ha)
                have hA : a ∉ g'.ad.take st.length := fun m => by
                  obtain ⟨i, hi⟩ := List.getElem?_of_mem m
                  have hi2 : i < st.length := by
                    have := (List.getElem?_eq_some_iff.mp hi).1
                    rw [List.length_take] at this
                    omega
                  rw [List.getElem?_take_of_lt hi2] at hi
                  obtain ⟨h1, e1⟩ := List.getElem?_eq_some_iff.mp ha
                  obtain ⟨h2, e2⟩ := List.getElem?_eq_some_iff.mp hi
                  have := (List.getElem_inj S.nd).mp (e1.trans e2.symm)
                  omega
                have hH0 : H a = none := by
                  rcases T.newA a (List.mem_of_getElem? ha) with m | m
                  · have had : g'.ad.take st.length = g.ad := by
                      obtain ⟨l, e⟩ := T.pre
                      rw [e, hn, List.take_left']
                      rfl
                    exact absurd (had ▸ m) hA
                  · exact m
                refine h _ _ _ (S3.freeze hA hB hH) (T3.freeze hH0 hB) (RD.lst upd_self ((pure_RVs hr hp).mono fun b u q => ?_))
                show upd g'.B a _ b = some u
                rw [upd_ne fun z => by rw [z, hB] at q; cases q]
                exact q
              · rw [if_neg hl] at h
                exact h.elim
/-- behind a block: what the def hands out -/
def endR (n0 : Nat) (keep : Bool) (r : SR) : Res Val := match r with
  | .ok (.ret v) _ st' => fin n0 keep v st'
  | .ok .next _ st' => fin n0 false (.d .non) st'
  | .ok _ _ _ => .bad
  | .exc c v _ st' => .exc c v st'
  | .bad => .bad
theorem end_ok {keep : Bool} {r : SR} (S0 : StoreR K g st H) (h : Out K (RV K) E g H (endR st.length keep r) Q) : OutS K (fun cls d _ H => E cls d H) { nx := fun _ H' => Q .non H', rt := Q } g H r := by
  cases r with
  | bad => exact h
  | exc c xs env st' => exact fun σ' g' H' cls d S T R X => h g' H' cls d S T X
  | ok f env st' =>
    cases f with
    | next => exact fun σ' g' H' S T R => fin_ok (keep := false) S0 h S T (show RV K g' .non (.d .non) from .non)
    | ret v => exact fun x g' H' S T r => fin_ok S0 h S T r
    | brk => exact h.elim
    | cont => exact h.elim
theorem start_ok {N : List Str} {vs : List V} {ws : List Val} (r : RVs K g vs ws) : EnvR K g (startE N ws) (L2.start N vs) := by
  have hl : vs.length = ws.length := Paired.length r
  refine ⟨by simp [startE, L2.start, hl], fun i v e => ?_⟩
  unfold startE at e
  by_cases hi : i < ws.length
  · rw [List.getElem?_append_left (by simpa using hi), List.getElem?_map] at e
    cases q : ws[i]? with
    | none =>
      rw [q] at e
      cases e
    | some w =>
      rw [q] at e
      cases e
      obtain ⟨x, e1, r1⟩ := paired_get r q
      refine ⟨x, ?_, r1⟩
      show (vs.map some ++ List.replicate (N.length - vs.length) none)[i]? = _
      rw [List.getElem?_append_left (by simp; omega), List.getElem?_map, e1]
      rfl
  · rw [List.getElem?_append_right (by simpa using hi)] at e
    rw [List.getElem?_replicate] at e
    split at e <;> cases e
end
structure DefOk (G : Glob) (K : PySem.W.Frag) (key : Key2) (d : He.DefD) (N : List Str) : Prop where
  at_ : d.at_ = key
  fn : ∃ fd, FunD K d.name d.qual d.params d.body d.scope [] [] (He.fAd K key) fd ∧ BindAll fd (parsOf d) ∧ ∀ ks, (key, ks) ∈ G.kws → KBinds K fd (parsOf d) ks (byNameD ks (parsOf d)) (byNameD ks (parsOf d))
  sc : FnScope N (parsOf d) d.scope
section
variable {G : Glob} {wl : Nat} {P : Program} {w : World} {K : PySem.W.Frag} {mg : Str → Option Value} {base : Heap}
theorem call_len : ∀ k key ws st, callF G wl k key ws st ≠ .bad → ∃ d N', G.find key = some (d, N') ∧ ws.length = (parsOf d).length
  | 0, key, ws, st, h => absurd rfl h
  | k + 1, key, ws, st, h => by
    have e : callF G wl (k + 1) key ws = (match G.find key with
      | some (d, N) => runBody G (callF G wl k) wl d N ws
      | none => bad) := rfl
    rw [e] at h
    cases q : G.find key with
    | none =>
      rw [q] at h
      exact absurd rfl h
    | some dn =>
      obtain ⟨d, N⟩ := dn
      rw [q] at h
      refine ⟨d, N, rfl, Classical.byContradiction fun hn => h ?_⟩
      show (if ws.length = (parsOf d).length then _ else Res.bad) = _
      rw [if_neg hn]
theorem fn_ok1 {k : Nat} {key : Key2} {d : He.DefD} {N' : List Str} {fd : FuncData} (GK : GlobOk G K mg) (ih : FnsOk G (callF G wl k) P w K mg base (2 * k)) (hf : G.find key = some (d, N')) (F : FunD K d.name d.qual d.params d.body d.scope [] [] (He.fAd K key) fd) (sc : FnScope N' (parsOf d) d.scope) :
    FnOk P w K mg base (L2.CX P w) (2 * (k + 1)) (He.fAd K key) fd (parsOf d) (spI K (callF G wl (k + 1)) key (parsOf d).length) := by
  refine F.ok (k := 2 * k + 1) sc (fun vs H Q E h => h.1) fun cdv A outer s H vs Q E hr hsp => ?_
  obtain ⟨hl, g, st, ws, S, rs, h⟩ := hsp
  have hl' : ws.length = (parsOf d).length := by
    rw [← hl]
    exact (Paired.length rs).symm
  have e : callF G wl (k + 1) key ws st = endR st.length (decide (d.at_ ∈ G.mret)) (exL (ex G (callF G wl k) wl N' d.scope 100) d.body (startE N' ws) st) := by
    have e1 : callF G wl (k + 1) key ws = (match G.find key with
      | some (d, N) => runBody G (callF G wl k) wl d N ws
      | none => bad) := rfl
    rw [e1, hf]
    show (if ws.length = (parsOf d).length then _ else Res.bad) = _
    rw [if_pos hl']
    rfl
  rw [e] at h
  have C : CtxS G (callF G wl k) k N' d.scope (fun cls d _ H => E cls d H) (cxOf (L2.CX P w) P w K mg base N' d.qual d.scope (He.fAd K key) cdv A outer s H E) := {
    e := {
      hN := rfl
      nd := sc.nd
      scope := rfl
      calm := rfl
      tk := takes_of (E := E) rfl rfl rfl rfl
      room := hr
      glob := GK
      fns := ih
      own := passes_of rfl
      len := call_len k }
    hs := rfl
    hf := rfl
    fn := fun _ => rfl }
  refine ⟨tSt K (fun cls d _ H => E cls d H) (exL (ex G (callF G wl k) wl N' d.scope 100) d.body), ?_, ?_⟩
  · exact ss_block fun s _ => sound_ex 100 C s
  · exact ⟨g, startE N' ws, st, S, start_ok rs, end_ok S h⟩
theorem call_ok (GK : GlobOk G K mg) (D : ∀ key d N', G.find key = some (d, N') → DefOk G K key d N') : ∀ k, FnsOk G (callF G wl k) P w K mg base (2 * k)
  | 0 => fun key d N' hf => by
    obtain ⟨fd, F, b, kb⟩ := (D key d N' hf).fn
    exact ⟨fd, ⟨fun vs H Q E h => h.1, fun A outer s H args us vs Q E _ _ _ _ h => by
      obtain ⟨_, g, st, ws, _, _, h⟩ := h
      exact h.elim⟩, b, kb⟩
  | k + 1 => fun key d N' hf => by
    have ih := call_ok GK D k
    obtain ⟨at_, ⟨fd, F, b, kb⟩, sc⟩ := D key d N' hf
    exact ⟨fd, fn_ok1 GK ih hf F sc, b, kb⟩
end
end IP

namespace IP
open PySem PySem.Spec PyProof.Rows L2
theorem zip_lookup_some : ∀ {as : List Str} {us : List Value} {n : Str}, us.length = as.length → n ∈ as → ((as.zip us).lookup n).isNone = false
  | [], _, _, _, m => by cases m
  | a :: as, [], n, h, m => by cases h
  | a :: as, u :: us, n, h, m => by
    show (List.lookup n ((a, u) :: as.zip us)).isNone = false
    rw [List.lookup_cons]
    by_cases e : n = a
    · subst e
      simp
    · rw [beq_eq_false_iff_ne.mpr e]
      exact zip_lookup_some (by simpa using h) (by simpa [e] using m)
theorem look_all : ∀ {as : List Str} {us : List Value}, as.Nodup → us.length = as.length → (as.filterMap fun n => ((as.zip us).lookup n).map (n, ·)) = as.zip us
  | [], us, _, _ => by cases us <;> rfl
  | a :: as, [], _, h => by cases h
  | a :: as, u :: us, nd, h => by
    have hn := List.nodup_cons.mp nd
    have ih := look_all hn.2 (by simpa using h)
    have e : ∀ bs : List Str, (∀ n ∈ bs, n ≠ a) → (bs.filterMap fun n => (((a :: as).zip (u :: us)).lookup n).map (n, ·)) = bs.filterMap fun n => ((as.zip us).lookup n).map (n, ·) := by
      intro bs
      induction bs with
      | nil => intro _; rfl
      | cons b bs ihb =>
        intro hb
        have e1 : ((a :: as).zip (u :: us)).lookup b = (as.zip us).lookup b := by
          show List.lookup b ((a, u) :: as.zip us) = _
          rw [List.lookup_cons, beq_eq_false_iff_ne.mpr (hb b (by simp))]
        rw [List.filterMap_cons, List.filterMap_cons, e1, ihb fun n m => hb n (List.mem_cons_of_mem _ m)]
    rw [List.filterMap_cons, e as fun n m z => hn.1 (z ▸ m), ih]
    have e2 : ((a :: as).zip (u :: us)).lookup a = some u := by
      show List.lookup a ((a, u) :: as.zip us) = _
      rw [List.lookup_cons]
      simp
    rw [e2]
    rfl
theorem bind_plain {name qual : Str} {as : List Arg} {kd : List (Option Expr)} {body : List Stmt} {scope : Scope} {kV doc pm : Value} {an : Option Addr} {cdv ct : Value} {us : List Value} (hl : us.length = as.length) (hnd : (as.map (·.arg)).Nodup) :
    bindArgs (PySem.W.fnOf name qual ⟨[], as, none, [], kd, none, []⟩ body scope .none kV doc pm an cdv ct) ⟨us, []⟩ = pure ((as.map (·.arg)).zip us) := by
  unfold bindArgs PySem.W.fnOf
  have hs : seqItems? Value.none = pure none := rfl
  have hl2 : us.length = (as.map (·.arg)).length := by simpa using hl
  dsimp only
  generalize as.map (·.arg) = ps at hnd hl2
  have hm : (ps.filter fun n => ((ps.zip us).lookup n).isNone) = [] := by
    rw [List.filter_eq_nil_iff]
    intro n m
    rw [zip_lookup_some hl2 m]
    simp
  have hnd' : (ps.filterMap fun n => ((ps.zip us).lookup n).map (n, ·)) = ps.zip us := look_all hnd hl2
  have ht : List.take ps.length ps = ps := List.take_length
  simp [hs, hl2, hm, hnd', ht]
end IP

set_option maxHeartbeats 4000000
/-! IP27: from the top's facts to the law. -/
namespace IP
open PySem PySem.Spec PyProof.Rows L2
def defFacts : Key2 → List He.Fa
  | (f, none) => [.glo f]
  | (c, some m) => [.cls c, .meth c m]
def conFacts : Str × DV → List He.Fa
  | (x, .int i) => [.int x i]
  | (x, .str z) => [.str x z]
  | _ => []
def conOk : Str × DV → Bool
  | (_, .int _) => true
  | (_, .str _) => true
  | _ => false
/-- the facts that the interpreter leans on -/
def faOf (G : Glob) : List He.Fa :=
  (G.defs.flatMap fun d => defFacts d.1.at_) ++ (G.free.map He.Fa.free) ++ (G.cls.flatMap fun c => [.glo c.1, .cls c.1, .mkr c.1]) ++ (G.flds.flatMap fun q => [.cls q.1, .noat q.1 q.2]) ++ (G.excs.map He.Fa.glo) ++ (G.cons.flatMap conFacts)
theorem saysD_facts {fa : List He.Fa} {fn : List He.DefD} {K : PySem.W.Frag} (c : He.SaysD fa fn K) {f : He.Fa} (h : f ∈ fa) : f.ok K = true := by
  obtain ⟨i, hi, e⟩ := List.mem_iff_getElem.mp h
  exact c.fact i (f := f) (by rw [List.getElem?_eq_getElem hi, e])
theorem saysD_defs {fa : List He.Fa} {fn : List He.DefD} {K : PySem.W.Frag} (c : He.SaysD fa fn K) {d : He.DefD} (h : d ∈ fn) : ∃ fd, FunD K d.name d.qual d.params d.body d.scope (d.dvs K) (d.kws K) (He.fAd K d.at_) fd := by
  obtain ⟨i, hi, e⟩ := List.mem_iff_getElem.mp h
  exact c.def_ i (d := d) (by rw [List.getElem?_eq_getElem hi, e])
theorem find_mem : ∀ {l : List (He.DefD × List Str)} {key : Key2} {d : He.DefD × List Str}, findD l key = some d → d ∈ l ∧ d.1.at_ = key
  | [], key, d, h => by cases h
  | x :: r, key, d, h => by
    have h : (if x.1.at_ = key then some x else findD r key) = some d := h
    by_cases e : x.1.at_ = key
    · rw [if_pos e] at h
      cases h
      exact ⟨List.mem_cons_self, e⟩
    · rw [if_neg e] at h
      obtain ⟨h1, h2⟩ := find_mem h
      exact ⟨List.mem_cons_of_mem _ h1, h2⟩
theorem lookS_mem {α : Type} : ∀ {l : List (Str × α)} {x : Str} {v : α}, lookS l x = some v → (x, v) ∈ l
  | [], x, v, h => by cases h
  | (n, a) :: r, x, v, h => by
    have h : (if n = x then some a else lookS r x) = some v := h
    by_cases e : n = x
    · rw [if_pos e] at h
      cases h
      rw [e]
      exact List.mem_cons_self
    · rw [if_neg e] at h
      exact List.mem_cons_of_mem _ (lookS_mem h)
section
variable {G : Glob} {K : PySem.W.Frag} {h : Heap} {mg : Str → Option Value}
theorem glob_ok (hc : G.cons.all conOk = true) (X : K.In h) (Gn : h.Ns mainGlobals mg) (c : He.SaysD (faOf G) (G.defs.map (·.1)) K) : GlobOk G K mg := by
  have mem : ∀ f, (f ∈ (G.defs.flatMap fun d => defFacts d.1.at_) ∨ f ∈ G.free.map He.Fa.free ∨ f ∈ (G.cls.flatMap fun c => [He.Fa.glo c.1, .cls c.1, .mkr c.1]) ∨ f ∈ (G.flds.flatMap fun q => [He.Fa.cls q.1, .noat q.1 q.2]) ∨ f ∈ G.excs.map He.Fa.glo ∨ f ∈ G.cons.flatMap conFacts) → f.ok K = true := fun f hf => saysD_facts c (by
    unfold faOf
    simp only [List.mem_append]
    rcases hf with hf | hf | hf | hf | hf | hf <;> simp [hf])
  refine ⟨fun x v hx => ?_, fun x hx => ?_, fun cl b hx => ?_, fun cl f hx => ?_, fun x hx => ?_, fun f d hf => ?_, fun cl m d hf => ?_⟩
  · have hm := lookS_mem hx
    have ho := List.all_eq_true.mp hc _ hm
    cases v with
    | int i =>
      obtain ⟨t, e⟩ := He.int_ok X Gn (mem (.int x i) (by
        refine .inr (.inr (.inr (.inr (.inr ?_))))
        exact List.mem_flatMap.mpr ⟨_, hm, by simp [conFacts]⟩))
      exact ⟨.int i, _, e, ⟨t, rfl⟩, .int i⟩
    | str z =>
      obtain ⟨t, e⟩ := He.str_ok X Gn (mem (.str x z) (by
        refine .inr (.inr (.inr (.inr (.inr ?_))))
        exact List.mem_flatMap.mpr ⟨_, hm, by simp [conFacts]⟩))
      exact ⟨.str z, _, e, ⟨t, rfl⟩, .str z⟩
    | _ => cases ho
  · exact He.free_ok X Gn (mem (.free x) (.inr (.inl (List.mem_map.mpr ⟨x, hx, rfl⟩))))
  · have hm := lookS_mem hx
    have hin : ∀ f ∈ [He.Fa.glo cl, .cls cl, .mkr cl], f.ok K = true := fun f hf => mem f (.inr (.inr (.inl (List.mem_flatMap.mpr ⟨_, hm, hf⟩))))
    exact ⟨He.glo_ok X Gn (hin _ (by simp)), He.cls_ok (hin (.cls cl) (by simp)), He.mkr_ok (hin (.mkr cl) (by simp))⟩
  · have hin : ∀ g ∈ [He.Fa.cls cl, .noat cl f], g.ok K = true := fun g hg => mem g (.inr (.inr (.inr (.inl (List.mem_flatMap.mpr ⟨_, hx, hg⟩)))))
    exact ⟨He.cls_ok (hin (.cls cl) (by simp)), He.noat_ok (hin (.noat cl f) (by simp))⟩
  · exact ⟨_, He.glo_ok X Gn (mem (.glo x) (.inr (.inr (.inr (.inr (.inl (List.mem_map.mpr ⟨x, hx, rfl⟩)))))))⟩
  · obtain ⟨h1, h2⟩ := find_mem hf
    refine ⟨He.glo_ok X Gn (mem (.glo f) (.inl (List.mem_flatMap.mpr ⟨d, h1, by rw [h2]; simp [defFacts]⟩))), ?_⟩
    obtain ⟨fd, F⟩ := saysD_defs c (d := d.1) (List.mem_map.mpr ⟨d, h1, rfl⟩)
    have := F.kp
    rw [h2] at this
    exact this
  · obtain ⟨h1, h2⟩ := find_mem hf
    have hin : ∀ g ∈ [He.Fa.cls cl, .meth cl m], g.ok K = true := fun g hg => mem g (.inl (List.mem_flatMap.mpr ⟨d, h1, by rw [h2]; exact hg⟩))
    exact ⟨He.cls_ok (hin (.cls cl) (by simp)), He.meth_ok (hin (.meth cl m) (by simp))⟩
end
/-! ### defs -/
def plainPars (p : Arguments) : Bool := p.posonlyargs.isEmpty && p.vararg.isNone && p.kwonlyargs.isEmpty && p.kwarg.isNone && p.defaults.isEmpty && decide (p.args.map (·.arg)).Nodup
def scopeOkB (N ps : List Str) (sc : Scope) : Bool := (match sc.kind with
  | .function => true
  | _ => false) && !sc.isCoroutine && !sc.isGenerator && decide N.Nodup && decide (N.take ps.length = ps) && ps.all (isLoc sc) && sc.names.all fun y => match y.2 with
  | .free => false
  | _ => true
theorem scopeOk_ok {N ps : List Str} {sc : Scope} (h : scopeOkB N ps sc = true) : FnScope N ps sc := by
  unfold scopeOkB at h
  simp only [Bool.and_eq_true, Bool.not_eq_true', decide_eq_true_eq, List.all_eq_true] at h
  obtain ⟨⟨⟨⟨⟨⟨h1, h2⟩, h3⟩, h4⟩, h5⟩, h6⟩, h7⟩ := h
  refine ⟨?_, h2, h3, h4, h5, fun x m => loc_ok (h6 x m), fun y m e => ?_⟩
  · split at h1
    · assumption
    · cases h1
  · have := h7 y m
    rw [e] at this
    cases this
def defOkB (d : He.DefD × List Str) : Bool := plainPars d.1.params && scopeOkB d.2 (parsOf d.1) d.1.scope && d.1.dfl.isEmpty && d.1.kwd.isEmpty
/-- a call by keywords binds -/
def KwOk (d : He.DefD) (ks : List Str) : Prop := parsOf d ≠ [] ∧ ∀ (kV doc pm : Value) (an : Option Addr) (cdv ct : Value) (ws : List Value), ws.length = ks.length →
  bindArgs (PySem.W.fnOf d.name d.qual d.params d.body d.scope .none kV doc pm an cdv ct) ⟨[], ks.zip ws⟩ = pure ((parsOf d).zip (byNameD ks (parsOf d) [] ws))
theorem funD_fd {K : PySem.W.Frag} {x qual : Str} {params : Arguments} {body : List Stmt} {scope : Scope} {f : Addr} {fd : FuncData} (F : FunD K x qual params body scope [] [] f fd) : ∃ (kV doc pm : Value) (an : Option Addr) (cdv ct : Value), fd = PySem.W.fnOf x qual params body scope .none kV doc pm an cdv ct := by
  obtain ⟨oc, od, dV, kV, doc, pm, an, cdv, ct, osl, rfl, lk, hcd, hD, hK⟩ := F.ex
  rcases hD with ⟨_, rfl⟩ | ⟨e, _⟩
  · exact ⟨_, _, _, _, _, _, rfl⟩
  · exact absurd rfl e
theorem paired_lenD {ks ps : List Str} {vs : List V} {us : List Value} (r : Vals vs us) {zs : List V} {ws : List Value} (h : Vals zs ws) : Vals (byNameD ks ps vs zs) (byNameD ks ps us ws) := by
  cases r with
  | cons _ _ => exact .nil
  | nil =>
    show Vals ((byNameL ks zs ps).getD []) ((byNameL ks ws ps).getD [])
    have hl : zs.length = ws.length := h.length
    unfold byNameL
    by_cases q : ws.length = ks.length
    · rw [if_pos q, if_pos (hl.trans q)]
      cases e : byName (ks.zip ws) ps with
      | none =>
        cases e2 : byName (ks.zip zs) ps with
        | none => exact .nil
        | some l =>
          have flip : Paired (fun (u : Value) (x : V) => L2.RelV x u) ws zs := by
            clear e e2 q hl
            induction h with
            | nil => exact .nil
            | cons h t ih => exact .cons h ih
          obtain ⟨l2, e3, _⟩ := byName_rel (ks := ks) flip e2
          rw [e] at e3
          cases e3
      | some l =>
        obtain ⟨l2, e3, r3⟩ := byName_rel (ks := ks) (show Paired L2.RelV zs ws from h) e
        rw [e3]
        exact r3
    · rw [if_neg q, if_neg fun z => q (hl.symm.trans z)]
      exact .nil
theorem defs_ok {G : Glob} {K : PySem.W.Frag} (hd : G.defs.all defOkB = true) (hk : ∀ key ks d N', (key, ks) ∈ G.kws → G.find key = some (d, N') → KwOk d ks) (c : He.SaysD (faOf G) (G.defs.map (·.1)) K) :
    ∀ key d N', G.find key = some (d, N') → DefOk G K key d N' := by
  intro key d N' hf
  obtain ⟨h1, h2⟩ := find_mem hf
  have hb := List.all_eq_true.mp hd _ h1
  unfold defOkB at hb
  simp only [Bool.and_eq_true, List.isEmpty_iff] at hb
  obtain ⟨⟨⟨hp, hs⟩, hdf⟩, hkw⟩ := hb
  obtain ⟨fd, F⟩ := saysD_defs c (d := d) (List.mem_map.mpr ⟨_, h1, rfl⟩)
  have e1 : d.dvs K = [] := by
    unfold He.DefD.dvs
    rw [hdf]
    rfl
  have e2 : d.kws K = [] := by
    unfold He.DefD.kws
    rw [hkw]
    rfl
  have h2 : d.at_ = key := h2
  rw [e1, e2, h2] at F
  obtain ⟨kV, doc, pm, an, cdv, ct, efd⟩ := funD_fd F
  refine ⟨h2, ⟨fd, F, fun s us hl => ?_, fun ks hks => ⟨fun s us ws X hl => ?_, fun r z => paired_lenD r z⟩⟩, scopeOk_ok hs⟩
  · rw [efd]
    refine .of_eq ?_
    have e3 : parsOf d = d.params.args.map (·.arg) := rfl
    rw [e3] at hl ⊢
    revert hp hl
    cases d.params with
    | mk po as va ko kd ka df =>
      intro hp hl
      unfold plainPars at hp
      simp only [Bool.and_eq_true, List.isEmpty_iff, Option.isNone_iff_eq_none, decide_eq_true_eq] at hp
      obtain ⟨⟨⟨⟨⟨rfl, rfl⟩, rfl⟩, rfl⟩, rfl⟩, nd⟩ := hp
      exact bind_plain (by simpa using hl) nd
  · obtain ⟨hne, hbind⟩ := hk key ks d N' hks hf
    cases us with
    | cons u us =>
      exfalso
      have hl : (0 : Nat) = (parsOf d).length := hl
      exact hne (List.eq_nil_of_length_eq_zero hl.symm)
    | nil =>
      by_cases q : ws.length = ks.length
      · rw [efd]
        exact .of_eq (hbind kV doc pm an cdv ct ws q)
      · exfalso
        have e : byNameD ks (parsOf d) [] ws = [] := by
          show (byNameL ks ws (parsOf d)).getD [] = []
          unfold byNameL
          rw [if_neg q]
          rfl
        rw [e] at hl
        exact hne (List.eq_nil_of_length_eq_zero hl.symm)
/-! ### the law -/
/-- the row's law, by the interpreter's answer at every script -/
theorem law_walk {l : PySem.W.OpenLaw} {n k wl : Nat} {q : Program} {loose : List Str} {XP : (Str → Option Value) → Heap → Prop} {d : DefRec} {x : Str} (G : Glob)
    (hn : l.most = some n) (hn2 : n ≤ sizeLine) (hdf : d.params.defaults = []) (hr : Room (2 * (k + 1)) callerA) (hname : d.name = "law")
    (hc : G.cons.all conOk = true) (hd : G.defs.all defOkB = true) (hk : ∀ key ks d N', (key, ks) ∈ G.kws → G.find key = some (d, N') → KwOk d ks)
    {dl : He.DefD} {N : List Str} (hl : G.find ("law", none) = some (dl, N)) (hp : parsOf dl = [x])
    (run : ∀ ns : List Int, ns.length ≤ n → (∀ z ∈ ns, Builtin.Int.intBits z ≤ 1048576) → ∃ st, callF G wl (k + 1) ("law", none) [.scr ns] [] = .ok (.d (.bl true)) st) :
    PySem.W.WalkO q loose XP (fun _ h => ∃ K : PySem.W.Frag, K.In h ∧ He.SaysD (faOf G) (G.defs.map (·.1)) K) l.row.toRowW d [] (fun f vs => PySem.call f vs) := by
  refine Att.attach_callB hn hdf fun w s₀ s₁ mg mb fa o pm cd doc a vs ns Gr Y ho hdd hcd hmg hobj hints hlen hbits hg => ?_
  obtain ⟨K, KX, c⟩ := Y
  have GK := glob_ok hc KX Gr.T.g c
  have D := defs_ok hd hk c
  have hfa : fa = He.fAd K ("law", none) := by
    have h1 := (GK.fn "law" _ hl).1
    rw [hname] at hmg
    rw [h1] at hmg
    cases hmg
    rfl
  obtain ⟨at_, ⟨fd, F, b, kb⟩, sc⟩ := D _ _ _ hl
  refine law_call (K := K) (CX := L2.CX l.prog w) (k := 2 * (k + 1)) (fd := fd) (x := x) (sp := spI K (callF G wl (k + 1)) ("law", none) 1) KX Gr.T.g Gr.T.b Gr.T.builtins Gr.T.nolimit hg hobj hints (Nat.le_trans hlen hn2) hr (fun base Xb Gb => ?_) (fun s u => ?_) (fun H hO hS => ?_) fun H e s' z => ?_
  · have := fn_ok1 (P := l.prog) (w := w) (base := base) (wl := wl) (k := k) GK (call_ok GK D k) hl F sc
    rw [hp] at this
    rw [hfa]
    exact this
  · have := b s [u] (by rw [hp]; rfl)
    rw [hp] at this
    exact this
  · obtain ⟨st, e⟩ := run ns hlen hbits
    have S0 : StoreR K ⟨H, []⟩ [] H := {
      sub := Same.refl _
      off := fun a m => absurd m (by simp)
      nd := List.nodup_nil
      cells := .nil }
    have R0 : RVs K ⟨H, []⟩ [.ref a] [.scr ns] := .cons ⟨a, rfl, hS⟩ .nil
    refine ⟨rfl, ⟨H, []⟩, [], [.scr ns], S0, R0, ?_⟩
    rw [e]
    intro y g' H' S T r
    exact RD.bl_inv r
  · obtain ⟨_, _, _, _, _, _, _, _, _, _, _, _, z⟩ := z
    exact z
end IP

set_option maxHeartbeats 4000000
/-! IP28: a program's defs as data. -/
namespace IP
open PySem PySem.Spec PyProof.Rows L2
/-- a row of the table of slots -/
def sl (k : Str) (m : Option Str) (N : List Str) : Key2 × List Str := ((k, m), N)
def defsIn (C : Str) : List Stmt → List He.DefD
  | [] => []
  | .FunctionDef n a b _ _ _ sc _ _ _ :: r => ⟨(C, some n), n, C ++ "." ++ n, a, b, sc, [], []⟩ :: defsIn C r
  | _ :: r => defsIn C r
def defsOf : List Stmt → List He.DefD
  | [] => []
  | .FunctionDef n a b _ _ _ sc _ _ _ :: r => ⟨(n, none), n, n, a, b, sc, [], []⟩ :: defsOf r
  | .ClassDef C _ _ cb _ _ _ _ _ _ _ :: r => defsIn C cb ++ defsOf r
  | _ :: r => defsOf r
def pickK (ds : List He.DefD) (k : Key2) : Option He.DefD := ds.find? fun d => decide (d.at_ = k)
def pickD (ds : List He.DefD) : List (Key2 × List Str) → List (He.DefD × List Str)
  | [] => []
  | (k, N) :: r => match pickK ds k with
    | some d => (d, N) :: pickD ds r
    | none => pickD ds r
end IP
namespace IP
open PySem
def default0 : He.DefD × List Str := (⟨("", none), "", "", ⟨[], [], none, [], [], none, []⟩, [], ⟨.function, [], false, false, []⟩, [], []⟩, [])
end IP

set_option maxHeartbeats 4000000
/-! IP29: a def's text by slots: the same steps without names. -/
namespace IP
open PySem L2
def vr (i : Nat) (env : Env) : M Val := match env[i]? with
  | some (some v) => pure v
  | _ => bad
def lsM : List (M Val) → M (List Val)
  | [] => pure []
  | e :: es => do
    let v ← e
    let vs ← lsM es
    pure (v :: vs)
def binM (op : Operator) (a b : M Val) : M Val := do
  let x ← a
  let y ← b
  liftO (bin op x y)
def unM (op : UnaryOp) (a : M Val) : M Val := do
  let x ← a
  liftO (un op x)
def cmpM (op : CmpOp) (a b : M Val) : M Val := do
  let x ← a
  let y ← b
  let r ← liftP (cmp op x y)
  pure (.d (.bl r))
def cmpT (op : CmpOp) (a b : M Val) : M Bool := do
  let x ← a
  let y ← b
  liftP (cmp op x y)
def cmp2M (op op' : CmpOp) (a b c : M Val) : M Val := do
  let x ← a
  let y ← b
  let r ← liftP (cmp op x y)
  if r then do
    let z ← c
    let r' ← liftP (cmp op' y z)
    pure (.d (.bl r'))
  else pure (.d (.bl false))
def cmp2T (op op' : CmpOp) (a b c : M Val) : M Bool := do
  let x ← a
  let y ← b
  let r ← liftP (cmp op x y)
  if r then do
    let z ← c
    liftP (cmp op' y z)
  else pure false
def boM (op : BoolOp) : List (M Val) → M Val
  | [] => bad
  | [e] => e
  | e :: e' :: es => do
    let v ← e
    match v with
    | .d (.bl b) => match op, b with
      | .And, true => boM op (e' :: es)
      | .And, false => pure (.d (.bl false))
      | .Or, true => pure (.d (.bl true))
      | .Or, false => boM op (e' :: es)
    | _ => bad
def boT (op : BoolOp) : List (M Bool) → M Bool
  | [] => bad
  | [e] => e
  | e :: e' :: es => do
    let b ← e
    match op, b with
      | .And, true => boT op (e' :: es)
      | .And, false => pure false
      | .Or, true => pure true
      | .Or, false => boT op (e' :: es)
def notT (a : M Bool) : M Bool := do
  let b ← a
  pure (!b)
def trT (a : M Val) : M Bool := do
  let v ← a
  liftP (tru v)
def ifM (c : M Bool) (a b : M Val) : M Val := do
  let t ← c
  if t then a else b
def tuM (es : List (M Val)) : M Val := do tupM (← lsM es)
/-- a new list: as a cell, or as data -/
def newM (mt : Bool) (vs : List Val) : M Val := fun st =>
  if mt then .ok (.r st.length) (st ++ [.lst vs])
  else match pureL vs with
    | some ds => if ds.length ≤ lim then .ok (.d (.lst ds)) st else .bad
    | none => .bad
def liM (mt : Bool) (es : List (M Val)) : M Val := do newM mt (← lsM es)
def setAll : List Nat → List DV → Env → Option Env
  | [], [], env => some env
  | i :: es, v :: vs, env => setAll es vs (env.set i (some (.d v)))
  | _, _, _ => none
def tg1 (i : Nat) (v : Val) (env : Env) : Option Env := some (env.set i (some v))
def tgs (es : List Nat) (v : Val) (env : Env) : Option Env := match v with
  | .d (.tup ds) => setAll es ds env
  | _ => none
def noCond (_ : Env) : M Bool := pure true
def lcM (mt : Bool) (src : M (List Val)) (own : List Nat) (tg : Val → Env → Option Env) (cond : Env → M Bool) (elt : Env → M Val) (env : Env) : M Val := do
  let items ← src
  if items.length ≤ lim then do
    let ds ← compLoop (fun v => tg v (wipeE env own)) cond elt items
    newM mt (ds.map Val.d)
  else bad
def subM (o i : M Val) : M Val := do
  let x ← o
  let y ← i
  liftP (item x y)
def poM (e : M Val) : M (Option Int) := do
  let v ← e
  let i ← liftO (asInt v)
  pure (some i)
def cutM (o : M Val) (lo hi : M (Option Int)) : M Val := do
  let x ← o
  let l ← lo
  let u ← hi
  liftP (cut x l u)
def fldM (fl : List (Str × Str)) (o : M Val) (f : Str) : M Val := do
  let x ← o
  liftP (field fl x f)
def caM (f : List Val → M Val) (es : List (M Val)) : M Val := do f (← lsM es)
def kwM (f : List Val → M Val) (ks ps : List Str) (es : List (M Val)) : M Val := do
  let vs ← lsM es
  match byNameL ks vs ps with
  | some ws => f ws
  | none => bad
def biM (F : List Val → P Val) (es : List (M Val)) : M Val := do
  let vs ← lsM es
  liftP (F vs)
def ssM (a : M Val) : M Val := do
  let x ← a
  liftP (biSortedSet x)
def isM (a : M Val) (cs : List (M Val)) : M Val := do
  let x ← a
  let ys ← lsM cs
  liftP (biIsi x ys)
def leM (call : Key2 → List Val → M Val) (a : M Val) : M Val := do
  let x ← a
  lenM call x
def meM (G : Glob) (call : Key2 → List Val → M Val) (o : M Val) (m : Str) (es : List (M Val)) : M Val := do
  let x ← o
  fun st => match insOf x st with
    | some (c, ns) => if m ∈ ns ∨ (G.find (c, some m)).isNone then .bad else (do call (c, some m) (x :: (← lsM es))) st
    | none => if recvL x then
        if m = "append" then (do appM x (← lsM es)) st
        else if m = "index" then (do indexM x (← lsM es)) st
        else .bad
      else .bad
def rngM (es : List (M Val)) : M (List Val) := do rangeS (← lsM es)
def zipM (es : List (M Val)) : M (List Val) := do zipS (← lsM es)
def genM (a : M Val) : M (List Val) := do genS (← a)
/-! ### statements -/
def skipS : SM := fun env st => .ok .next env st
def exprS (e : Env → M Val) : SM := fun env st => withV (e env) env st fun _ st1 => .ok .next env st1
def retS (e : Env → M Val) : SM := fun env st => withV (e env) env st fun v st1 => .ok (.ret v) env st1
def retN : SM := fun env st => .ok (.ret (.d .non)) env st
def asgS (i : Nat) (e : Env → M Val) : SM := fun env st => withV (e env) env st fun v st1 => .ok .next (env.set i (some v)) st1
def asgT (is : List Nat) (e : Env → M Val) : SM := fun env st => withV (e env) env st fun v st1 => match tgs is v env with
  | some env1 => .ok .next env1 st1
  | none => .bad
def asgI (o i e : Env → M Val) : SM := fun env st => withV (e env) env st fun v st1 => withV (o env) env st1 fun ov st2 => withV (i env) env st2 fun iv st3 => setItemM ov iv v env st3
def asgF (fl : List (Str × Str)) (o : Env → M Val) (f : Str) (e : Env → M Val) : SM := fun env st => withV (e env) env st fun v st1 => withV (o env) env st1 fun ov st2 => setFieldM fl ov f v env st2
def augS (op : Operator) (i : Nat) (e : Env → M Val) : SM := fun env st => match env[i]? with
  | some (some (.d (.int a))) => withV (e env) env st fun v st1 => match v with
    | .d (.int b) => withV (liftO (binI op a b)) env st1 fun v st2 => .ok .next (env.set i (some v)) st2
    | _ => .bad
  | _ => .bad
def blS : List SM → SM
  | [] => skipS
  | s :: ss => seqS s (blS ss)
def ifS (c : Env → M Bool) (a b : SM) : SM := fun env st => withV (c env) env st fun t st1 => if t then a env st1 else b env st1
def forS (src : Env → M (List Val)) (tg : Val → Env → Option Env) (b : SM) : SM := fun env st => withV (src env) env st fun items st1 => forLoop tg b items env st1
def whS (c : Env → M Bool) (b : SM) : SM := fun env st => whileLoop c b 1000000 env st
def brkS : SM := fun env st => .ok .brk env st
def conS : SM := fun env st => .ok .cont env st
def tryS (b : SM) : SM := fun env st => noExcS (b env st)
def badS : SM := fun _ _ => .bad
end IP

set_option maxHeartbeats 4000000
/-! IPP: steps of the texts by slots, for simp. -/
namespace IP
open PySem L2
theorem bind_ap {α β : Type} (m : M α) (k : α → M β) (st : Store) : (m >>= k) st = (match m st with
    | .ok v st' => k v st'
    | .exc c x st' => .exc c x st'
    | .bad => .bad) := rfl
theorem pure_ap {α : Type} (v : α) (st : Store) : (pure v : M α) st = .ok v st := rfl
theorem bad_ap {α : Type} (st : Store) : (bad : M α) st = .bad := rfl
theorem liftO_ap {α : Type} (o : Option α) (st : Store) : liftO o st = (match o with
    | some v => .ok v st
    | none => .bad) := by cases o <;> rfl
theorem liftP_ap {α : Type} (p : P α) (st : Store) : liftP p st = (match p st with
    | some v => .ok v st
    | none => .bad) := rfl
theorem vr_ap (i : Nat) (env : Env) (st : Store) : vr i env st = (match env[i]? with
    | some (some v) => .ok v st
    | _ => .bad) := by
  unfold vr
  cases env[i]? with
  | none => rfl
  | some o => cases o <;> rfl
theorem ite_ap {α : Type} (c : Prop) [Decidable c] (a b : M α) (st : Store) : (if c then a else b) st = if c then a st else b st := by split <;> rfl
theorem trunc_self (st : Store) : trunc st.length st = st := by
  unfold trunc
  rw [List.take_length]
  split <;> rfl
theorem fin_d (keep : Bool) (v : DV) (st : Store) : fin st.length keep (.d v) st = .ok (.d v) st := by
  show Res.ok (Val.d v) (trunc st.length st) = _
  rw [trunc_self]
/-- a def whose body ends by data, the store as it was -/
theorem end_d {keep : Bool} {r : SR} {v : DV} {env : Env} {st : Store} (h : r = .ok (.ret (.d v)) env st) : endR st.length keep r = .ok (.d v) st := by
  rw [h]
  exact fin_d keep v st
theorem end_n {keep : Bool} {r : SR} {env : Env} {st : Store} (h : r = .ok .next env st) : endR st.length keep r = .ok (.d .non) st := by
  rw [h]
  exact fin_d false .non st
/-- a comprehension over what is told apart by f: no store is touched -/
theorem comp_map {α : Type} {bd : Val → Option Env} {cond : Env → M Bool} {elt : Env → M Val} {st : Store} {f : α → Val} {e : α → Env} {p : α → Bool} {g : α → DV} : ∀ {xs : List α}, (∀ x ∈ xs, bd (f x) = some (e x)) → (∀ x ∈ xs, cond (e x) st = .ok (p x) st) → (∀ x ∈ xs, p x = true → elt (e x) st = .ok (.d (g x)) st) →
    compLoop bd cond elt (xs.map f) st = .ok ((xs.filter p).map g) st
  | [], _, _, _ => rfl
  | x :: xs, h1, h2, h3 => by
    have ih := comp_map (fun y m => h1 y (List.mem_cons_of_mem _ m)) (fun y m => h2 y (List.mem_cons_of_mem _ m)) (fun y m => h3 y (List.mem_cons_of_mem _ m))
    have e0 : compLoop bd cond elt (f x :: xs.map f) = (match bd (f x) with
      | none => bad
      | some e1 => noExc (cond e1) >>= fun b => if b then (noExc (elt e1) >>= fun v => match v with
          | .d y => compLoop bd cond elt (xs.map f) >>= fun ys => pure (y :: ys)
          | _ => bad) else compLoop bd cond elt (xs.map f)) := by
      show (match bd (f x) with
        | none => bad
        | some e1 => _) = _
      cases bd (f x) <;> rfl
    rw [List.map_cons, e0, h1 x List.mem_cons_self]
    dsimp only
    have n1 : noExc (cond (e x)) st = .ok (p x) st := by
      unfold noExc
      rw [h2 x List.mem_cons_self]
    rw [bind_ap, n1]
    dsimp only
    cases hp : p x with
    | false =>
      rw [if_neg (by simp), ih, List.filter_cons_of_neg (by simp [hp])]
    | true =>
      have n2 : noExc (elt (e x)) st = .ok (.d (g x)) st := by
        unfold noExc
        rw [h3 x List.mem_cons_self hp]
      rw [if_pos rfl, bind_ap, n2]
      dsimp only
      rw [bind_ap, ih, List.filter_cons_of_pos (by simp [hp])]
      rfl
theorem cmp_lt (i j : Int) (st : Store) : cmp .Lt (.d (.int i)) (.d (.int j)) st = some (decide (i < j)) := rfl
theorem cmp_le (i j : Int) (st : Store) : cmp .LtE (.d (.int i)) (.d (.int j)) st = some (decide (i ≤ j)) := rfl
theorem cmp_gt (i j : Int) (st : Store) : cmp .Gt (.d (.int i)) (.d (.int j)) st = some (decide (i > j)) := rfl
theorem cmp_ge (i j : Int) (st : Store) : cmp .GtE (.d (.int i)) (.d (.int j)) st = some (decide (i ≥ j)) := rfl
theorem cmp_eq (i j : Int) (st : Store) : cmp .Eq (.d (.int i)) (.d (.int j)) st = some (decide (i = j)) := rfl
theorem cmp_ne (i j : Int) (st : Store) : cmp .NotEq (.d (.int i)) (.d (.int j)) st = some (!decide (i = j)) := rfl
theorem bin_add (i j : Int) : bin .Add (.d (.int i)) (.d (.int j)) = some (.d (.int (i + j))) := rfl
theorem bin_sub (i j : Int) : bin .Sub (.d (.int i)) (.d (.int j)) = some (.d (.int (i - j))) := rfl
theorem pureL_d : ∀ ds : List DV, pureL (ds.map Val.d) = some ds
  | [] => rfl
  | d :: ds => by
    show (match pureL (ds.map Val.d) with
      | some xs => some (d :: xs)
      | none => none) = _
    rw [pureL_d ds]
/-- a new list of data -/
theorem newD {ds : List DV} {st : Store} (h : ds.length ≤ lim) : newM false (ds.map Val.d) st = .ok (.d (.lst ds)) st := by
  unfold newM
  rw [if_neg (by simp), pureL_d]
  dsimp only
  rw [if_pos h]
theorem meM_index {G : Glob} {call : Key2 → List Val → M Val} {o : M Val} {es : List (M Val)} {ds : List DV} {vs : List Val} {st : Store} (h : o st = .ok (.d (.lst ds)) st) (h2 : lsM es st = .ok vs st) : meM G call o "index" es st = indexM (.d (.lst ds)) vs st := by
  unfold meM
  refine (bind_ap o _ st).trans ?_
  rw [h]
  have e1 : (("index" : Str) = "append") = False := eq_false (by decide)
  show (if recvL (.d (.lst ds)) = true then (if ("index" : Str) = "append" then ((lsM es >>= fun vs => appM (.d (.lst ds)) vs) st) else if ("index" : Str) = "index" then ((lsM es >>= fun vs => indexM (.d (.lst ds)) vs) st) else Res.bad) else Res.bad) = _
  rw [if_pos (show recvL (.d (.lst ds)) = true from rfl), if_neg (by rw [e1]; exact id), if_pos rfl, bind_ap, h2]
theorem meM_append {G : Glob} {call : Key2 → List Val → M Val} {o : M Val} {es : List (M Val)} {n : Nat} {xs : List Val} {v : Val} {st : Store} (h : o st = .ok (.r n) st) (hx : st[n]? = some (.lst xs)) (h2 : lsM es st = .ok [v] st) (hl : xs.length < lim) :
    meM G call o "append" es st = .ok (.d .non) (st.set n (.lst (xs ++ [v]))) := by
  unfold meM
  refine (bind_ap o _ st).trans ?_
  rw [h]
  have e0 : insOf (.r n) st = none := by
    show (match st[n]? with
      | some (.obj c ns _) => some (c, ns)
      | _ => none) = none
    rw [hx]
  show (match insOf (.r n) st with
    | some (c, ns) => _
    | none => if recvL (.r n) = true then (if ("append" : Str) = "append" then ((lsM es >>= fun vs => appM (.r n) vs) st) else _) else Res.bad) = _
  rw [e0]
  dsimp only
  rw [if_pos (show recvL (.r n) = true from rfl), if_pos rfl, bind_ap, h2]
  show (match st[n]? with
    | some (.lst xs) => if xs.length < lim then Res.ok (Val.d .non) (st.set n (.lst (xs ++ [v]))) else .bad
    | _ => .bad) = _
  rw [hx]
  dsimp only
  rw [if_pos hl]
theorem last_at {st : Store} {c : Cell} : (st ++ [c])[st.length]? = some c := by simp
theorem last_set {st : Store} {c c' : Cell} : (st ++ [c]).set st.length c' = st ++ [c'] := by
  rw [List.set_append_right _ _ (Nat.le_refl _)]
  simp
end IP

set_option maxHeartbeats 4000000
/-! IPT: typed readings of the texts by slots: what an expression, a statement comes to, as plain Lean values. -/
namespace IP
open PySem L2
/-- a value by a name -/
def lt {α β : Sort _} (a : α) (f : α → β) : β := f a
/-! ### encodings -/
def eT {α : Type} (e : α → DV) (xs : List α) : DV := .tup (xs.map e)
def eL {α : Type} (e : α → DV) (xs : List α) : DV := .lst (xs.map e)
def eP {α β : Type} (e : α → DV) (f : β → DV) (p : α × β) : DV := .tup [e p.1, f p.2]
def eP3 {α β γ : Type} (e : α → DV) (f : β → DV) (g : γ → DV) (p : α × β × γ) : DV := .tup [e p.1, f p.2.1, g p.2.2]
def eP4 {α β γ δ : Type} (e : α → DV) (f : β → DV) (g : γ → DV) (h : δ → DV) (p : α × β × γ × δ) : DV := .tup [e p.1, f p.2.1, g p.2.2.1, h p.2.2.2]
def eO {α : Type} (e : α → DV) : Option α → DV
  | none => .non
  | some a => e a
def eN (_ : Unit) : DV := .non
def eA (d : DV) : DV := d
def eR (p : Int × List (List Int)) : DV := .obj "Rules" ["size", "rows"] [.int p.1, .tup (p.2.map fun r => .tup (r.map DV.int))]
def cL {α : Type} (e : α → DV) (xs : List α) : Cell := .lst (xs.map fun x => Val.d (e x))
theorem tI_eT (xs : List Int) : tI xs = eT DV.int xs := rfl
/-- a read of the store -/
def Ev {α : Type} (m : M α) (st : Store) (v : α) (st' : Store) : Prop := m st = .ok v st'

theorem E_vr {i : Nat} {env : Env} {v : Val} {st : Store} (h : env[i]? = some (some v)) : Ev (vr i env) st v st := by
  unfold Ev vr
  rw [h]
  rfl
theorem E_pu {α : Type} {v : α} {st : Store} : Ev (pure v : M α) st v st := rfl
theorem Ev_bind {α β : Type} {m : M α} {k : α → M β} {st s1 s2 : Store} {a : α} {b : β} (h : Ev m st a s1) (h2 : Ev (k a) s1 b s2) : Ev (m >>= k) st b s2 := by
  unfold Ev at *
  rw [bind_ap, h]
  exact h2
theorem Ev_liftP {α : Type} {p : P α} {st : Store} {a : α} (h : p st = some a) : Ev (liftP p) st a st := by
  unfold Ev
  rw [liftP_ap, h]
theorem Ev_liftO {α : Type} {p : Option α} {st : Store} {a : α} (h : p = some a) : Ev (liftO p) st a st := by
  unfold Ev
  rw [h]
  rfl
theorem L_nil {st : Store} : Ev (lsM []) st [] st := rfl
theorem L_cons {e : M Val} {es : List (M Val)} {st s1 s2 : Store} {v : Val} {vs : List Val} (h : Ev e st v s1) (t : Ev (lsM es) s1 vs s2) : Ev (lsM (e :: es)) st (v :: vs) s2 :=
  Ev_bind h (Ev_bind t rfl)
theorem E_ca {f : List Val → M Val} {es : List (M Val)} {st s1 s2 : Store} {vs : List Val} {v : Val} (h : Ev (lsM es) st vs s1) (c : f vs s1 = .ok v s2) : Ev (caM f es) st v s2 := Ev_bind h c
theorem E_kw {f : List Val → M Val} {ks ps : List Str} {es : List (M Val)} {st s1 s2 : Store} {vs ws : List Val} {v : Val} (h : Ev (lsM es) st vs s1) (hb : byNameL ks vs ps = some ws) (c : f ws s1 = .ok v s2) : Ev (kwM f ks ps es) st v s2 := by
  refine Ev_bind h ?_
  rw [hb]
  exact c
theorem E_bin {op : Operator} {a b : M Val} {st s1 s2 : Store} {x y v : Val} (ha : Ev a st x s1) (hb : Ev b s1 y s2) (h : bin op x y = some v) : Ev (binM op a b) st v s2 := Ev_bind ha (Ev_bind hb (Ev_liftO h))
theorem E_un {op : UnaryOp} {a : M Val} {st s1 : Store} {x v : Val} (ha : Ev a st x s1) (h : un op x = some v) : Ev (unM op a) st v s1 := Ev_bind ha (Ev_liftO h)
theorem E_cmp {op : CmpOp} {a b : M Val} {st s1 s2 : Store} {x y : Val} {r : Bool} (ha : Ev a st x s1) (hb : Ev b s1 y s2) (h : cmp op x y s2 = some r) : Ev (cmpM op a b) st (.d (.bl r)) s2 := Ev_bind ha (Ev_bind hb (Ev_bind (Ev_liftP h) rfl))
theorem T_cmp {op : CmpOp} {a b : M Val} {st s1 s2 : Store} {x y : Val} {r : Bool} (ha : Ev a st x s1) (hb : Ev b s1 y s2) (h : cmp op x y s2 = some r) : Ev (cmpT op a b) st r s2 := Ev_bind ha (Ev_bind hb (Ev_liftP h))
theorem E_cmp2 {op op' : CmpOp} {a b c : M Val} {st s1 s2 : Store} {x y z : Val} {r r' : Bool} (ha : Ev a st x s1) (hb : Ev b s1 y s2) (h : cmp op x y s2 = some r) (hc : r = true → Ev c s2 z s2) (h' : cmp op' y z s2 = some r') : Ev (cmp2M op op' a b c) st (.d (.bl (r && r'))) s2 := by
  refine Ev_bind ha (Ev_bind hb (Ev_bind (Ev_liftP h) ?_))
  cases r with
  | false => rfl
  | true =>
    rw [if_pos rfl]
    exact Ev_bind (hc rfl) (Ev_bind (Ev_liftP h') rfl)
theorem T_cmp2 {op op' : CmpOp} {a b c : M Val} {st s1 s2 : Store} {x y z : Val} {r r' : Bool} (ha : Ev a st x s1) (hb : Ev b s1 y s2) (h : cmp op x y s2 = some r) (hc : r = true → Ev c s2 z s2) (h' : cmp op' y z s2 = some r') : Ev (cmp2T op op' a b c) st (r && r') s2 := by
  refine Ev_bind ha (Ev_bind hb (Ev_bind (Ev_liftP h) ?_))
  cases r with
  | false => rfl
  | true =>
    rw [if_pos rfl]
    exact Ev_bind (hc rfl) (Ev_liftP h')
theorem E_bo1 {op : BoolOp} {e : M Val} {st s1 : Store} {v : Val} (h : Ev e st v s1) : Ev (boM op [e]) st v s1 := h
theorem E_and {e e' : M Val} {es : List (M Val)} {st s1 s' : Store} {x y : Bool} (h : Ev e st (.d (.bl x)) s1) (h0 : x = false → s1 = s') (h1 : x = true → Ev (boM .And (e' :: es)) s1 (.d (.bl y)) s') : Ev (boM .And (e :: e' :: es)) st (.d (.bl (x && y))) s' := by
  refine Ev_bind h ?_
  cases x with
  | false => rw [← h0 rfl]; rfl
  | true => exact h1 rfl
theorem E_or {e e' : M Val} {es : List (M Val)} {st s1 s' : Store} {x y : Bool} (h : Ev e st (.d (.bl x)) s1) (h0 : x = true → s1 = s') (h1 : x = false → Ev (boM .Or (e' :: es)) s1 (.d (.bl y)) s') : Ev (boM .Or (e :: e' :: es)) st (.d (.bl (x || y))) s' := by
  refine Ev_bind h ?_
  cases x with
  | true => rw [← h0 rfl]; rfl
  | false => exact h1 rfl
theorem T_bo1 {op : BoolOp} {e : M Bool} {st s1 : Store} {v : Bool} (h : Ev e st v s1) : Ev (boT op [e]) st v s1 := h
theorem T_and {e e' : M Bool} {es : List (M Bool)} {st s1 s' : Store} {x y : Bool} (h : Ev e st x s1) (h0 : x = false → s1 = s') (h1 : x = true → Ev (boT .And (e' :: es)) s1 y s') : Ev (boT .And (e :: e' :: es)) st (x && y) s' := by
  refine Ev_bind h ?_
  cases x with
  | false => rw [← h0 rfl]; rfl
  | true => exact h1 rfl
theorem T_or {e e' : M Bool} {es : List (M Bool)} {st s1 s' : Store} {x y : Bool} (h : Ev e st x s1) (h0 : x = true → s1 = s') (h1 : x = false → Ev (boT .Or (e' :: es)) s1 y s') : Ev (boT .Or (e :: e' :: es)) st (x || y) s' := by
  refine Ev_bind h ?_
  cases x with
  | true => rw [← h0 rfl]; rfl
  | false => exact h1 rfl
theorem T_not {a : M Bool} {st s1 : Store} {b : Bool} (h : Ev a st b s1) : Ev (notT a) st (!b) s1 := Ev_bind h rfl
theorem T_tr {a : M Val} {st s1 : Store} {v : Val} {b : Bool} (h : Ev a st v s1) (ht : tru v s1 = some b) : Ev (trT a) st b s1 := Ev_bind h (Ev_liftP ht)
theorem T_bl {a : M Val} {st s1 : Store} {b : Bool} (h : Ev a st (.d (.bl b)) s1) : Ev (trT a) st b s1 := T_tr h rfl
theorem E_if {α : Type} {en : α → DV} {c : M Bool} {a b : M Val} {st s1 s' : Store} {t : Bool} {x y : α} (hc : Ev c st t s1) (h1 : t = true → Ev a s1 (.d (en x)) s') (h0 : t = false → Ev b s1 (.d (en y)) s') : Ev (ifM c a b) st (.d (en (if t then x else y))) s' := by
  refine Ev_bind hc ?_
  cases t with
  | true => exact h1 rfl
  | false => exact h0 rfl
theorem E_tu {es : List (M Val)} {st s1 : Store} {vs : List Val} {ds : List DV} (h : Ev (lsM es) st vs s1) (hp : pureL vs = some ds) (hl : ds.length ≤ lim) : Ev (tuM es) st (.d (.tup ds)) s1 := by
  refine Ev_bind h ?_
  unfold tupM
  rw [hp]
  show (if ds.length ≤ lim then (pure (.d (.tup ds)) : M Val) else bad) s1 = _
  rw [if_pos hl]
  rfl
theorem E_li {es : List (M Val)} {st s1 : Store} {vs : List Val} {ds : List DV} (h : Ev (lsM es) st vs s1) (hp : pureL vs = some ds) (hl : ds.length ≤ lim) : Ev (liM false es) st (.d (.lst ds)) s1 := by
  refine Ev_bind h ?_
  show (match pureL vs with
    | some ds => if ds.length ≤ lim then Res.ok (Val.d (.lst ds)) s1 else .bad
    | none => .bad) = _
  rw [hp]
  dsimp only
  rw [if_pos hl]
/-- a new list as a cell -/
theorem E_lic {es : List (M Val)} {st s1 : Store} {vs : List Val} (h : Ev (lsM es) st vs s1) : Ev (liM true es) st (.r s1.length) (s1 ++ [.lst vs]) := Ev_bind h rfl
theorem E_sub {o i : M Val} {st s1 s2 : Store} {x y v : Val} (ho : Ev o st x s1) (hi : Ev i s1 y s2) (h : item x y s2 = some v) : Ev (subM o i) st v s2 := Ev_bind ho (Ev_bind hi (Ev_liftP h))
theorem O_none {st : Store} : Ev (pure none : M (Option Int)) st none st := rfl
theorem O_some {e : M Val} {st s1 : Store} {i : Int} (h : Ev e st (.d (.int i)) s1) : Ev (poM e) st (some i) s1 := Ev_bind h rfl
theorem E_cut {o : M Val} {l u : M (Option Int)} {st s1 s2 s3 : Store} {x v : Val} {lo hi : Option Int} (ho : Ev o st x s1) (hl : Ev l s1 lo s2) (hu : Ev u s2 hi s3) (h : cut x lo hi s3 = some v) : Ev (cutM o l u) st v s3 := Ev_bind ho (Ev_bind hl (Ev_bind hu (Ev_liftP h)))
theorem E_fld {fl : List (Str × Str)} {o : M Val} {f : Str} {st s1 : Store} {x v : Val} (ho : Ev o st x s1) (h : field fl x f s1 = some v) : Ev (fldM fl o f) st v s1 := Ev_bind ho (Ev_liftP h)
theorem E_bi {F : List Val → P Val} {es : List (M Val)} {st s1 : Store} {vs : List Val} {v : Val} (h : Ev (lsM es) st vs s1) (hF : F vs s1 = some v) : Ev (biM F es) st v s1 := Ev_bind h (Ev_liftP hF)
theorem E_ss {a : M Val} {st s1 : Store} {x v : Val} (h : Ev a st x s1) (hF : biSortedSet x s1 = some v) : Ev (ssM a) st v s1 := Ev_bind h (Ev_liftP hF)
theorem E_is {a : M Val} {cs : List (M Val)} {st s1 s2 : Store} {x v : Val} {ys : List Val} (h : Ev a st x s1) (hc : Ev (lsM cs) s1 ys s2) (hF : biIsi x ys s2 = some v) : Ev (isM a cs) st v s2 := Ev_bind h (Ev_bind hc (Ev_liftP hF))
theorem E_len {call : Key2 → List Val → M Val} {a : M Val} {st s1 : Store} {x : Val} {n : Int} (h : Ev a st x s1) (hi : insOf x s1 = none) (hb : biLen x s1 = some (.d (.int n))) : Ev (leM call a) st (.d (.int n)) s1 := by
  refine Ev_bind h ?_
  show lenM call x s1 = _
  unfold lenM
  rw [hi]
  show liftP (biLen x) s1 = _
  rw [liftP_ap, hb]
theorem E_lenK {call : Key2 → List Val → M Val} {a : M Val} {st s1 s2 : Store} {x : Val} {c : Str} {ns : List Str} {n : Int} (h : Ev a st x s1) (hi : insOf x s1 = some (c, ns)) (hc : call (c, some "__len__") [x] s1 = .ok (.d (.int n)) s2) (hn : 0 ≤ n ∧ n < 2 ^ 63) : Ev (leM call a) st (.d (.int n)) s2 := by
  refine Ev_bind h ?_
  show lenM call x s1 = _
  unfold lenM
  rw [hi]
  dsimp only
  rw [hc]
  dsimp only
  rw [if_pos hn]
theorem E_me {G : Glob} {call : Key2 → List Val → M Val} {o : M Val} {m : Str} {es : List (M Val)} {st s1 s2 s3 : Store} {x v : Val} {vs : List Val} {c : Str} {ns : List Str} (ho : Ev o st x s1) (hi : insOf x s1 = some (c, ns)) (hm : ¬(m ∈ ns ∨ (G.find (c, some m)).isNone = true)) (hs : Ev (lsM es) s1 vs s2) (hc : call (c, some m) (x :: vs) s2 = .ok v s3) : Ev (meM G call o m es) st v s3 := by
  refine Ev_bind ho ?_
  show (match insOf x s1 with
    | some (c, ns) => _
    | none => _) = _
  rw [hi]
  dsimp only
  rw [if_neg hm]
  exact Ev_bind hs hc
/-! ### what is walked -/
def irange (lo hi : Int) : List Int := (List.range (hi - lo).toNat).map fun (i : Nat) => lo + (i : Int)
theorem W_rng1 {e : M Val} {st s1 : Store} {n : Int} (h : Ev e st (.d (.int n)) s1) (hn : small62 n = true) : Ev (rngM [e]) st ((irange 0 n).map fun i => Val.d (.int i)) s1 := by
  refine Ev_bind (L_cons h L_nil) (Ev_liftO ?_)
  show (if small62 n then some (rangeV 0 n.toNat) else none) = _
  rw [if_pos hn]
  unfold rangeV irange
  rw [List.map_map, Int.sub_zero]
  rfl
theorem W_rng2 {e f : M Val} {st s1 s2 : Store} {m n : Int} (h : Ev e st (.d (.int m)) s1) (h2 : Ev f s1 (.d (.int n)) s2) (hm : small62 m = true) (hn : small62 n = true) : Ev (rngM [e, f]) st ((irange m n).map fun i => Val.d (.int i)) s2 := by
  refine Ev_bind (L_cons h (L_cons h2 L_nil)) (Ev_liftO ?_)
  show (if (small62 m && small62 n) = true then some (rangeV m (n - m).toNat) else none) = _
  rw [hm, hn]
  show some (rangeV m (n - m).toNat) = _
  unfold rangeV irange
  rw [List.map_map]
  rfl
theorem W_genT {α : Type} {en : α → DV} {a : M Val} {st s1 : Store} {xs : List α} (h : Ev a st (.d (eT en xs)) s1) : Ev (genM a) st (xs.map fun x => Val.d (en x)) s1 := by
  refine Ev_bind h ?_
  show Res.ok ((xs.map en).map Val.d) s1 = _
  rw [List.map_map]
  rfl
theorem W_genL {α : Type} {en : α → DV} {a : M Val} {st s1 : Store} {xs : List α} (h : Ev a st (.d (eL en xs)) s1) : Ev (genM a) st (xs.map fun x => Val.d (en x)) s1 := by
  refine Ev_bind h ?_
  show Res.ok ((xs.map en).map Val.d) s1 = _
  rw [List.map_map]
  rfl
theorem zipN2 {α β : Type} (e : α → DV) (f : β → DV) (xs : List α) (ys : List β) : zipN [xs.map e, ys.map f] = (xs.zip ys).map fun p => Val.d (eP e f p) := by
  unfold zipN
  refine List.ext_getElem? fun i => ?_
  simp only [List.getElem?_map, List.getElem?_range', minL, List.length_map, zipI, List.map_cons, List.map_nil]
  by_cases h : i < min xs.length ys.length
  · have h1 : i < xs.length := by omega
    have h2 : i < ys.length := by omega
    have hz : i < (xs.zip ys).length := by rw [List.length_zip]; exact h
    rw [List.getElem?_range h, List.getElem?_eq_getElem hz]
    simp [eP, List.getD_eq_getElem?_getD, h1, h2]
  · rw [List.getElem?_eq_none (by simpa using h), List.getElem?_eq_none (by rw [List.length_zip]; omega)]
    rfl
theorem zipN3 {α β γ : Type} (e : α → DV) (f : β → DV) (g : γ → DV) (xs : List α) (ys : List β) (zs : List γ) : zipN [xs.map e, ys.map f, zs.map g] = (xs.zip (ys.zip zs)).map fun p => Val.d (eP3 e f g p) := by
  unfold zipN
  refine List.ext_getElem? fun i => ?_
  simp only [List.getElem?_map, minL, List.length_map, zipI, List.map_cons, List.map_nil]
  by_cases h : i < min xs.length (min ys.length zs.length)
  · have h1 : i < xs.length := by omega
    have h2 : i < ys.length := by omega
    have h3 : i < zs.length := by omega
    have hz : i < (xs.zip (ys.zip zs)).length := by rw [List.length_zip, List.length_zip]; exact h
    rw [List.getElem?_range h, List.getElem?_eq_getElem hz]
    simp [eP3, List.getD_eq_getElem?_getD, h1, h2, h3]
  · rw [List.getElem?_eq_none (by simpa using h), List.getElem?_eq_none (by rw [List.length_zip, List.length_zip]; omega)]
    rfl
theorem W_zip2 {α β : Type} {e : α → DV} {f : β → DV} {a b : M Val} {st s1 s2 : Store} {x y : Val} {xs : List α} {ys : List β} (ha : Ev a st x s1) (hb : Ev b s1 y s2) (hx : dseqD x = some (xs.map e)) (hy : dseqD y = some (ys.map f)) : Ev (zipM [a, b]) st ((xs.zip ys).map fun p => Val.d (eP e f p)) s2 := by
  refine Ev_bind (L_cons ha (L_cons hb L_nil)) (Ev_liftO ?_)
  have : dseqs [x, y] = some [xs.map e, ys.map f] := by simp [dseqs, hx, hy]
  rw [this, ← zipN2]
  rfl
theorem W_zip3 {α β γ : Type} {e : α → DV} {f : β → DV} {g : γ → DV} {a b c : M Val} {st s1 s2 s3 : Store} {x y z : Val} {xs : List α} {ys : List β} {zs : List γ} (ha : Ev a st x s1) (hb : Ev b s1 y s2) (hc : Ev c s2 z s3) (hx : dseqD x = some (xs.map e)) (hy : dseqD y = some (ys.map f)) (hz : dseqD z = some (zs.map g)) : Ev (zipM [a, b, c]) st ((xs.zip (ys.zip zs)).map fun p => Val.d (eP3 e f g p)) s3 := by
  refine Ev_bind (L_cons ha (L_cons hb (L_cons hc L_nil))) (Ev_liftO ?_)
  have : dseqs [x, y, z] = some [xs.map e, ys.map f, zs.map g] := by simp [dseqs, hx, hy, hz]
  rw [this, ← zipN3]
  rfl
/-! ### comprehensions -/
theorem comp_ev {α β : Type} {en : β → DV} {bd : Val → Option Env} {cond : Env → M Bool} {elt : Env → M Val} {st : Store} {f : α → Val} {e : α → Env} {p : α → Bool} {g : α → β} {xs : List α} (h1 : ∀ x, bd (f x) = some (e x)) (h2 : ∀ x ∈ xs, Ev (cond (e x)) st (p x) st) (h3 : ∀ x ∈ xs, p x = true → Ev (elt (e x)) st (.d (en (g x))) st) :
    compLoop bd cond elt (xs.map f) st = .ok (((xs.filter p).map g).map en) st := by
  rw [comp_map (g := fun x => en (g x)) (fun x _ => h1 x) h2 h3, List.map_map]
  rfl
theorem E_lc {α β : Type} {en : β → DV} {src : M (List Val)} {own : List Nat} {tg : Val → Env → Option Env} {cond : Env → M Bool} {elt : Env → M Val} {env : Env} {st s1 : Store} {f : α → Val} {e : α → Env} {p : α → Bool} {g : α → β} {xs : List α} (hs : Ev src st (xs.map f) s1) (hl : xs.length ≤ lim) (hb : ∀ x, tg (f x) (wipeE env own) = some (e x)) (hc : ∀ x ∈ xs, Ev (cond (e x)) s1 (p x) s1) (he : ∀ x ∈ xs, p x = true → Ev (elt (e x)) s1 (.d (en (g x))) s1) :
    Ev (lcM false src own tg cond elt env) st (.d (eL en ((xs.filter p).map g))) s1 := by
  refine Ev_bind hs ?_
  show (if (xs.map f).length ≤ lim then _ else bad : M Val) s1 = _
  rw [ite_ap, if_pos (by simpa using hl)]
  refine Ev_bind (comp_ev (en := en) hb hc he) ?_
  exact newD (by simpa using Nat.le_trans (List.length_filter_le _ _) hl)
theorem E_lc0 {α β : Type} {en : β → DV} {src : M (List Val)} {own : List Nat} {tg : Val → Env → Option Env} {elt : Env → M Val} {env : Env} {st s1 : Store} {f : α → Val} {e : α → Env} {g : α → β} {xs : List α} (hs : Ev src st (xs.map f) s1) (hl : xs.length ≤ lim) (hb : ∀ x, tg (f x) (wipeE env own) = some (e x)) (he : ∀ x ∈ xs, Ev (elt (e x)) s1 (.d (en (g x))) s1) :
    Ev (lcM false src own tg noCond elt env) st (.d (eL en (xs.map g))) s1 := by
  have := E_lc (p := fun _ => true) (cond := noCond) hs hl hb (fun _ _ => rfl) (fun x m _ => he x m)
  rwa [List.filter_eq_self.mpr (fun _ _ => rfl)] at this
theorem E_lcc {α β : Type} {en : β → DV} {src : M (List Val)} {own : List Nat} {tg : Val → Env → Option Env} {cond : Env → M Bool} {elt : Env → M Val} {env : Env} {st s1 : Store} {f : α → Val} {e : α → Env} {p : α → Bool} {g : α → β} {xs : List α} (hs : Ev src st (xs.map f) s1) (hl : xs.length ≤ lim) (hb : ∀ x, tg (f x) (wipeE env own) = some (e x)) (hc : ∀ x ∈ xs, Ev (cond (e x)) s1 (p x) s1) (he : ∀ x ∈ xs, p x = true → Ev (elt (e x)) s1 (.d (en (g x))) s1) :
    Ev (lcM true src own tg cond elt env) st (.r s1.length) (s1 ++ [cL en ((xs.filter p).map g)]) := by
  refine Ev_bind hs ?_
  show (if (xs.map f).length ≤ lim then _ else bad : M Val) s1 = _
  rw [ite_ap, if_pos (by simpa using hl)]
  refine Ev_bind (comp_ev (en := en) hb hc he) ?_
  show Res.ok _ _ = _
  unfold cL
  rw [List.map_map]
  rfl
theorem E_lcc0 {α β : Type} {en : β → DV} {src : M (List Val)} {own : List Nat} {tg : Val → Env → Option Env} {elt : Env → M Val} {env : Env} {st s1 : Store} {f : α → Val} {e : α → Env} {g : α → β} {xs : List α} (hs : Ev src st (xs.map f) s1) (hl : xs.length ≤ lim) (hb : ∀ x, tg (f x) (wipeE env own) = some (e x)) (he : ∀ x ∈ xs, Ev (elt (e x)) s1 (.d (en (g x))) s1) :
    Ev (lcM true src own tg noCond elt env) st (.r s1.length) (s1 ++ [cL en (xs.map g)]) := by
  have := E_lcc (p := fun _ => true) (cond := noCond) hs hl hb (fun _ _ => rfl) (fun x m _ => he x m)
  rwa [List.filter_eq_self.mpr (fun _ _ => rfl)] at this
/-- a comprehension whose items' values change the store -/
def mapS {α β σ : Type} (g : α → σ → β × σ) : List α → σ → List β × σ
  | [], s => ([], s)
  | x :: xs, s => ((g x s).1 :: (mapS g xs (g x s).2).1, (mapS g xs (g x s).2).2)
def okS {α β σ : Type} (g : α → σ → β × σ) (ok : α → σ → Prop) : List α → σ → Prop
  | [], _ => True
  | x :: xs, s => ok x s ∧ okS g ok xs (g x s).2
theorem comp_evS {α β σ : Type} {en : β → DV} {bd : Val → Option Env} {elt : Env → M Val} {S : σ → Store} {f : α → Val} {e : α → Env} {g : α → σ → β × σ} {ok : α → σ → Prop} (h1 : ∀ x, bd (f x) = some (e x)) : ∀ {xs : List α} {s : σ}, (∀ x ∈ xs, ∀ s, ok x s → Ev (elt (e x)) (S s) (.d (en (g x s).1)) (S (g x s).2)) → okS g ok xs s →
    compLoop bd noCond elt (xs.map f) (S s) = .ok ((mapS g xs s).1.map en) (S (mapS g xs s).2)
  | [], s, _, _ => rfl
  | x :: xs, s, h3, h => by
    have ih := comp_evS (en := en) (g := g) (ok := ok) h1 (xs := xs) (s := (g x s).2) (fun y m => h3 y (List.mem_cons_of_mem _ m)) h.2
    have e0 : compLoop bd noCond elt (f x :: xs.map f) = (match bd (f x) with
      | none => bad
      | some e1 => noExc (noCond e1) >>= fun b => if b then (noExc (elt e1) >>= fun v => match v with
          | .d y => compLoop bd noCond elt (xs.map f) >>= fun ys => pure (y :: ys)
          | _ => bad) else compLoop bd noCond elt (xs.map f)) := by
      show (match bd (f x) with
        | none => bad
        | some e1 => _) = _
      cases bd (f x) <;> rfl
    rw [List.map_cons, e0, h1 x]
    refine Ev_bind (a := true) (s1 := S s) rfl ?_
    rw [if_pos rfl]
    have n2 : noExc (elt (e x)) (S s) = .ok (.d (en (g x s).1)) (S (g x s).2) := by
      have h := h3 x List.mem_cons_self s h.1
      unfold Ev at h
      unfold noExc
      rw [h]
    refine Ev_bind n2 ?_
    exact Ev_bind ih rfl
theorem E_lcS {α β σ : Type} {en : β → DV} {src : M (List Val)} {own : List Nat} {tg : Val → Env → Option Env} {elt : Env → M Val} {env : Env} {st : Store} {S : σ → Store} {s : σ} {f : α → Val} {e : α → Env} {g : α → σ → β × σ} {ok : α → σ → Prop} {xs : List α} (hs : Ev src st (xs.map f) (S s)) (hl : xs.length ≤ lim) (hb : ∀ x, tg (f x) (wipeE env own) = some (e x)) (he : ∀ x ∈ xs, ∀ s, ok x s → Ev (elt (e x)) (S s) (.d (en (g x s).1)) (S (g x s).2)) (hok : okS g ok xs s) :
    Ev (lcM false src own tg noCond elt env) st (.d (eL en (mapS g xs s).1)) (S (mapS g xs s).2) := by
  refine Ev_bind hs ?_
  show (if (xs.map f).length ≤ lim then _ else bad : M Val) (S s) = _
  rw [ite_ap, if_pos (by simpa using hl)]
  refine Ev_bind (comp_evS (en := en) hb he hok) ?_
  have hlen : ∀ (xs : List α) (s : σ), (mapS g xs s).1.length = xs.length := by
    intro xs
    induction xs with
    | nil => intro s; rfl
    | cons x xs ih => intro s; show ((mapS g xs _).1.length + 1) = _; rw [ih]; rfl
  exact newD (by rw [List.length_map, hlen]; exact hl)
theorem E_lccS {α β σ : Type} {en : β → DV} {src : M (List Val)} {own : List Nat} {tg : Val → Env → Option Env} {elt : Env → M Val} {env : Env} {st : Store} {S : σ → Store} {s : σ} {f : α → Val} {e : α → Env} {g : α → σ → β × σ} {ok : α → σ → Prop} {xs : List α} (hs : Ev src st (xs.map f) (S s)) (hl : xs.length ≤ lim) (hb : ∀ x, tg (f x) (wipeE env own) = some (e x)) (he : ∀ x ∈ xs, ∀ s, ok x s → Ev (elt (e x)) (S s) (.d (en (g x s).1)) (S (g x s).2)) (hok : okS g ok xs s) :
    Ev (lcM true src own tg noCond elt env) st (.r (S (mapS g xs s).2).length) (S (mapS g xs s).2 ++ [cL en (mapS g xs s).1]) := by
  refine Ev_bind hs ?_
  show (if (xs.map f).length ≤ lim then _ else bad : M Val) (S s) = _
  rw [ite_ap, if_pos (by simpa using hl)]
  refine Ev_bind (comp_evS (en := en) hb he hok) ?_
  show Res.ok _ _ = _
  unfold cL
  rw [List.map_map]
  rfl
end IP

set_option maxHeartbeats 4000000
/-! IPT2: typed values: comparisons, items, slices, built-ins. -/
namespace IP
open PySem L2
/-! ### == of data -/
/-- data of a depth up to n, compared as values -/
structure PyE {α : Type} [DecidableEq α] (n : Nat) (e : α → DV) : Prop where
  py : ∀ a, ∃ p, (e a).py = some p ∧ p.canLay0 = true ∧ p.depth ≤ n
  eq : ∀ a b p q, (e a).py = some p → (e b).py = some q → PyData.eqv p q = decide (a = b)
theorem PyE.int : PyE 0 DV.int where
  py a := ⟨.int a, rfl, by simp [PyData.canLay0], by simp [PyData.depth]⟩
  eq a b p q h1 h2 := by
    cases h1
    cases h2
    simp only [PyData.eqv]
    by_cases h : a = b <;> simp [h]
theorem PyE.bl : PyE 0 DV.bl where
  py a := ⟨.bool a, rfl, by simp [PyData.canLay0], by simp [PyData.depth]⟩
  eq a b p q h1 h2 := by
    cases h1
    cases h2
    simp only [PyData.eqv]
    cases a <;> cases b <;> rfl
theorem pyL_map {α : Type} [DecidableEq α] {n : Nat} {e : α → DV} (h : PyE n e) : ∀ xs : List α, ∃ ps, pyL (xs.map e) = some ps ∧ PyData.canLayAll0 ps = true ∧ PyData.depthAll ps ≤ n
  | [] => ⟨[], by simp [pyL], by simp [PyData.canLayAll0], by simp [PyData.depthAll]⟩
  | x :: xs => by
    obtain ⟨p, h1, h2, h3⟩ := h.py x
    obtain ⟨ps, h4, h5, h6⟩ := pyL_map h xs
    refine ⟨p :: ps, ?_, ?_, ?_⟩
    · simp [pyL, h1, h4]
    · simp [PyData.canLayAll0, h2, h5]
    · simp only [PyData.depthAll]; omega
theorem pyL_eq {α : Type} [DecidableEq α] {n : Nat} {e : α → DV} (h : PyE n e) : ∀ (xs ys : List α) (ps qs : List PyData), pyL (xs.map e) = some ps → pyL (ys.map e) = some qs → PyData.eqvAll ps qs = decide (xs = ys)
  | [], [], ps, qs, h1, h2 => by
    simp only [List.map_nil, pyL, Option.some.injEq] at h1 h2
    subst h1 h2
    simp [PyData.eqvAll]
  | [], y :: ys, ps, qs, h1, h2 => by
    obtain ⟨q, e1, _⟩ := h.py y
    obtain ⟨rs, e2, _⟩ := pyL_map h ys
    simp only [List.map_nil, List.map_cons, pyL, e1, e2, Option.some.injEq] at h1 h2
    subst h1 h2
    simp [PyData.eqvAll]
  | x :: xs, [], ps, qs, h1, h2 => by
    obtain ⟨q, e1, _⟩ := h.py x
    obtain ⟨rs, e2, _⟩ := pyL_map h xs
    simp only [List.map_nil, List.map_cons, pyL, e1, e2, Option.some.injEq] at h1 h2
    subst h1 h2
    simp [PyData.eqvAll]
  | x :: xs, y :: ys, ps, qs, h1, h2 => by
    obtain ⟨q, e1, _⟩ := h.py x
    obtain ⟨rs, e2, _⟩ := pyL_map h xs
    obtain ⟨q', e1', _⟩ := h.py y
    obtain ⟨rs', e2', _⟩ := pyL_map h ys
    simp only [List.map_cons, pyL, e1, e2, e1', e2', Option.some.injEq] at h1 h2
    subst h1 h2
    simp only [PyData.eqvAll, h.eq x y q q' e1 e1', pyL_eq h xs ys rs rs' e2 e2', List.cons.injEq, Bool.decide_and]
theorem PyE.tup {α : Type} [DecidableEq α] {n : Nat} {e : α → DV} (h : PyE n e) : PyE (n + 1) (eT e) where
  py xs := by
    obtain ⟨ps, h1, h2, h3⟩ := pyL_map h xs
    exact ⟨.tuple ps, by simp [eT, DV.py, h1], by simp [PyData.canLay0, h2], by simp only [PyData.depth]; omega⟩
  eq xs ys p q h1 h2 := by
    obtain ⟨ps, e1, _⟩ := pyL_map h xs
    obtain ⟨qs, e2, _⟩ := pyL_map h ys
    simp only [eT, DV.py, e1, e2, Option.some.injEq] at h1 h2
    subst h1 h2
    simp only [PyData.eqv]
    exact pyL_eq h xs ys ps qs e1 e2
theorem PyE.lst {α : Type} [DecidableEq α] {n : Nat} {e : α → DV} (h : PyE n e) : PyE (n + 1) (eL e) where
  py xs := by
    obtain ⟨ps, h1, h2, h3⟩ := pyL_map h xs
    exact ⟨.list ps, by simp [eL, DV.py, h1], by simp [PyData.canLay0, h2], by simp only [PyData.depth]; omega⟩
  eq xs ys p q h1 h2 := by
    obtain ⟨ps, e1, _⟩ := pyL_map h xs
    obtain ⟨qs, e2, _⟩ := pyL_map h ys
    simp only [eL, DV.py, e1, e2, Option.some.injEq] at h1 h2
    subst h1 h2
    simp only [PyData.eqv]
    exact pyL_eq h xs ys ps qs e1 e2
theorem PyE.mono {α : Type} [DecidableEq α] {n m : Nat} {e : α → DV} (h : PyE n e) (hm : n ≤ m) : PyE m e where
  py a := by
    obtain ⟨p, h1, h2, h3⟩ := h.py a
    exact ⟨p, h1, h2, by omega⟩
  eq := h.eq
theorem PyE.pair {α β : Type} [DecidableEq α] [DecidableEq β] {n m : Nat} {e : α → DV} {f : β → DV} (h : PyE n e) (h' : PyE m f) : PyE (max n m + 1) (eP e f) where
  py a := by
    obtain ⟨p, h1, h2, h3⟩ := h.py a.1
    obtain ⟨q, k1, k2, k3⟩ := h'.py a.2
    exact ⟨.tuple [p, q], by simp [eP, DV.py, pyL, h1, k1], by simp [PyData.canLay0, PyData.canLayAll0, h2, k2], by simp only [PyData.depth, PyData.depthAll]; omega⟩
  eq a b p q h1 h2 := by
    obtain ⟨p1, e1, _⟩ := h.py a.1
    obtain ⟨p2, e2, _⟩ := h'.py a.2
    obtain ⟨p3, e3, _⟩ := h.py b.1
    obtain ⟨p4, e4, _⟩ := h'.py b.2
    simp only [eP, DV.py, pyL, e1, e2, e3, e4, Option.some.injEq] at h1 h2
    subst h1 h2
    simp only [PyData.eqv, PyData.eqvAll, h.eq _ _ _ _ e1 e3, h'.eq _ _ _ _ e2 e4, Bool.and_true, Prod.ext_iff, Bool.decide_and]
theorem pyOf_e {α : Type} [DecidableEq α] {n : Nat} {e : α → DV} (h : PyE n e) (hn : n ≤ 64) (a : α) (st : Store) : ∃ p, pyOf (.d (e a)) st = some p ∧ (e a).py = some p := by
  obtain ⟨p, h1, h2, h3⟩ := h.py a
  refine ⟨p, ?_, h1⟩
  unfold pyOf
  simp only [h1]
  rw [if_pos (by simp [SeqAt.shaped, h2]; omega)]
theorem cmp_eqE {α : Type} [DecidableEq α] {n : Nat} {e : α → DV} (h : PyE n e) (hn : n ≤ 64) {a b : α} {st : Store} (hp : prI (.d (e a)) (.d (e b)) = none) : cmp .Eq (.d (e a)) (.d (e b)) st = some (decide (a = b)) := by
  obtain ⟨p, h1, h2⟩ := pyOf_e h hn a st
  obtain ⟨q, k1, k2⟩ := pyOf_e h hn b st
  unfold cmp
  rw [hp]
  simp only [cmpD, h1, k1, h.eq a b p q h2 k2]
theorem cmp_neE {α : Type} [DecidableEq α] {n : Nat} {e : α → DV} (h : PyE n e) (hn : n ≤ 64) {a b : α} {st : Store} (hp : prI (.d (e a)) (.d (e b)) = none) : cmp .NotEq (.d (e a)) (.d (e b)) st = some (!decide (a = b)) := by
  obtain ⟨p, h1, h2⟩ := pyOf_e h hn a st
  obtain ⟨q, k1, k2⟩ := pyOf_e h hn b st
  unfold cmp
  rw [hp]
  simp only [cmpD, h1, k1, h.eq a b p q h2 k2]
theorem any_eqv {α : Type} [DecidableEq α] {n : Nat} {e : α → DV} (h : PyE n e) (a : α) (p : PyData) (hp : (e a).py = some p) : ∀ (xs : List α) (ps : List PyData), pyL (xs.map e) = some ps → (ps.any fun z => PyData.eqv z p) = decide (a ∈ xs)
  | [], ps, h1 => by
    simp only [List.map_nil, pyL, Option.some.injEq] at h1
    subst h1
    simp
  | x :: xs, ps, h1 => by
    obtain ⟨q, e1, _⟩ := h.py x
    obtain ⟨rs, e2, _⟩ := pyL_map h xs
    simp only [List.map_cons, pyL, e1, e2, Option.some.injEq] at h1
    subst h1
    rw [List.any_cons, any_eqv h a p hp xs rs e2, h.eq x a q p e1 hp]
    by_cases hx : x = a <;> simp [hx, eq_comm]
    intro hh
    exact absurd hh.symm hx
theorem pyOf_lst {α : Type} [DecidableEq α] {n : Nat} {e : α → DV} (h : PyE n e) (hn : n + 1 ≤ 64) (xs : List α) (st : Store) : ∃ ps, pyOf (.d (eL e xs)) st = some (.list ps) ∧ pyL (xs.map e) = some ps := by
  obtain ⟨ps, h1, h2, h3⟩ := pyL_map h xs
  refine ⟨ps, ?_, h1⟩
  unfold pyOf
  simp only [eL, DV.py, h1]
  rw [if_pos (by simp [SeqAt.shaped, PyData.canLay0, PyData.depth, h2]; omega)]
theorem pyOf_cell {α : Type} [DecidableEq α] {n : Nat} {e : α → DV} (h : PyE n e) (hn : n + 1 ≤ 64) (xs : List α) (st : Store) (m : Nat) (hm : st[m]? = some (cL e xs)) : ∃ ps, pyOf (.r m) st = some (.list ps) ∧ pyL (xs.map e) = some ps := by
  obtain ⟨ps, h1, h2, h3⟩ := pyL_map h xs
  refine ⟨ps, ?_, h1⟩
  have e1 : pureL (xs.map fun x => Val.d (e x)) = some (xs.map e) := by
    have := pureL_d (xs.map e)
    rwa [List.map_map] at this
  unfold pyOf
  simp only [hm, cL, e1, h1]
  rw [if_pos (by simp [SeqAt.shaped, PyData.canLay0, PyData.depth, h2]; omega)]
theorem prI_lst {x : Val} {d : DV} (h : ∀ i, d ≠ .int i) : prI x (.d d) = none := by
  cases d <;> first | (cases x <;> first | rfl | (rename_i y; cases y <;> rfl)) | exact absurd rfl (h _)
theorem prI_r {x : Val} {m : Nat} : prI x (.r m) = none := by
  cases x <;> first | rfl | (rename_i y; cases y <;> rfl)
theorem cmp_inL {α : Type} [DecidableEq α] {n : Nat} {e : α → DV} (h : PyE n e) (hn : n + 1 ≤ 64) {a : α} {xs : List α} {st : Store} {inst : Decidable (a ∈ xs)} : cmp .In (.d (e a)) (.d (eL e xs)) st = some (@decide (a ∈ xs) inst) := by
  obtain ⟨p, h1, h2⟩ := pyOf_e h (by omega) a st
  obtain ⟨q, k1, k2⟩ := pyOf_lst h hn xs st
  unfold cmp
  rw [prI_lst (by intro i hi; cases hi)]
  simp only [cmpD, h1, k1, any_eqv h a p h2 xs q k2]
  congr
theorem cmp_ninL {α : Type} [DecidableEq α] {n : Nat} {e : α → DV} (h : PyE n e) (hn : n + 1 ≤ 64) {a : α} {xs : List α} {st : Store} {inst : Decidable (a ∈ xs)} : cmp .NotIn (.d (e a)) (.d (eL e xs)) st = some (!@decide (a ∈ xs) inst) := by
  obtain ⟨p, h1, h2⟩ := pyOf_e h (by omega) a st
  obtain ⟨q, k1, k2⟩ := pyOf_lst h hn xs st
  unfold cmp
  rw [prI_lst (by intro i hi; cases hi)]
  simp only [cmpD, h1, k1, any_eqv h a p h2 xs q k2]
  congr
theorem cmp_inC {α : Type} [DecidableEq α] {n : Nat} {e : α → DV} (h : PyE n e) (hn : n + 1 ≤ 64) {a : α} {xs : List α} {st : Store} {inst : Decidable (a ∈ xs)} {m : Nat} (hm : st[m]? = some (cL e xs)) : cmp .In (.d (e a)) (.r m) st = some (@decide (a ∈ xs) inst) := by
  obtain ⟨p, h1, h2⟩ := pyOf_e h (by omega) a st
  obtain ⟨q, k1, k2⟩ := pyOf_cell h hn xs st m hm
  unfold cmp
  rw [prI_r]
  simp only [cmpD, h1, k1, any_eqv h a p h2 xs q k2]
  congr
theorem cmp_ninC {α : Type} [DecidableEq α] {n : Nat} {e : α → DV} (h : PyE n e) (hn : n + 1 ≤ 64) {a : α} {xs : List α} {st : Store} {inst : Decidable (a ∈ xs)} {m : Nat} (hm : st[m]? = some (cL e xs)) : cmp .NotIn (.d (e a)) (.r m) st = some (!@decide (a ∈ xs) inst) := by
  obtain ⟨p, h1, h2⟩ := pyOf_e h (by omega) a st
  obtain ⟨q, k1, k2⟩ := pyOf_cell h hn xs st m hm
  unfold cmp
  rw [prI_r]
  simp only [cmpD, h1, k1, any_eqv h a p h2 xs q k2]
  congr
/-! ### operators -/
theorem bin_mulL {i j : Int} (h : i.natAbs < 2 ^ 64) : bin .Mult (.d (.int i)) (.d (.int j)) = some (.d (.int (i * j))) := by
  show okI (MulOkB i j) (i * j) = _
  have : MulOkB i j = true := by unfold MulOkB; rw [decide_eq_true h]; rfl
  rw [this]
  rfl
theorem bin_mul {i j : Int} (h : MulOkB i j = true) : bin .Mult (.d (.int i)) (.d (.int j)) = some (.d (.int (i * j))) := by
  show okI (MulOkB i j) (i * j) = _
  rw [h]
  rfl
theorem bin_div {i j : Int} (h : DivOkB j = true) : bin .FloorDiv (.d (.int i)) (.d (.int j)) = some (.d (.int (i / j))) := by
  show okI (DivOkB j) (i / j) = _
  rw [h]
  rfl
theorem bin_mod {i j : Int} (h : 0 < j) : bin .Mod (.d (.int i)) (.d (.int j)) = some (.d (.int (i % j))) := by
  show okI (decide (0 < j)) (i % j) = _
  rw [decide_eq_true h]
  rfl
theorem bin_pow {i j : Int} (h : PowOkB i j = true) : bin .Pow (.d (.int i)) (.d (.int j)) = some (.d (.int (i ^ j.toNat))) := by
  show okI (PowOkB i j) _ = _
  rw [h]
  rfl
theorem bin_shl {i j : Int} (h : PowOkB i j = true) : bin .LShift (.d (.int i)) (.d (.int j)) = some (.d (.int (i * 2 ^ j.toNat))) := by
  show okI (PowOkB i j) _ = _
  rw [h]
  rfl
theorem bin_shr {i j : Int} (h : 0 ≤ j) : bin .RShift (.d (.int i)) (.d (.int j)) = some (.d (.int (i / 2 ^ j.toNat))) := by
  show okI (decide (0 ≤ j)) _ = _
  rw [decide_eq_true h]
  rfl
theorem bin_and {i j : Int} : bin .BitAnd (.d (.int i)) (.d (.int j)) = some (.d (.int (Builtin.bitAnd i j))) := rfl
theorem bin_or {i j : Int} : bin .BitOr (.d (.int i)) (.d (.int j)) = some (.d (.int (Builtin.bitOr i j))) := rfl
theorem bin_xor {i j : Int} : bin .BitXor (.d (.int i)) (.d (.int j)) = some (.d (.int (Builtin.bitXor i j))) := rfl
theorem bin_catL {α : Type} {e : α → DV} {xs ys : List α} (h : xs.length + ys.length ≤ lim) : bin .Add (.d (eL e xs)) (.d (eL e ys)) = some (.d (eL e (xs ++ ys))) := by
  show (if (xs.map e).length + (ys.map e).length ≤ lim then some (Val.d (.lst (xs.map e ++ ys.map e))) else none) = _
  rw [if_pos (by simpa using h), ← List.map_append]
  rfl
theorem bin_catT {α : Type} {e : α → DV} {xs ys : List α} (h : xs.length + ys.length ≤ lim) : bin .Add (.d (eT e xs)) (.d (eT e ys)) = some (.d (eT e (xs ++ ys))) := by
  show (if (xs.map e).length + (ys.map e).length ≤ lim then some (Val.d (.tup (xs.map e ++ ys.map e))) else none) = _
  rw [if_pos (by simpa using h), ← List.map_append]
  rfl
/-- a tuple k times -/
def rep {α : Type} (xs : List α) (k : Int) : List α := (List.replicate k.toNat xs).flatten
theorem bin_rep {α : Type} {e : α → DV} {xs : List α} {k : Int} (h : 0 ≤ k ∧ k ≤ 1000 ∧ xs.length ≤ 1000 ∧ xs ≠ []) : bin .Mult (.d (eT e xs)) (.d (.int k)) = some (.d (eT e (rep xs k))) := by
  show (if 0 ≤ k ∧ k ≤ 1000 ∧ (xs.map e).length ≤ 1000 ∧ xs.map e ≠ [] then some (Val.d (.tup (List.replicate k.toNat (xs.map e)).flatten)) else none) = _
  rw [if_pos (by simpa using h)]
  unfold eT rep
  rw [List.map_flatten, List.map_replicate]
/-! ### items, slices -/
def ix {α : Type} [Inhabited α] (xs : List α) (i : Int) : α := (atI xs i).getD default
def inR (n : Nat) (i : Int) : Prop := -(n : Int) ≤ i ∧ i < n
theorem atI_in {α : Type} [Inhabited α] {xs : List α} {i : Int} (h : inR xs.length i) : atI xs i = some (ix xs i) := by
  obtain ⟨h1, h2⟩ := h
  unfold ix
  have : ∃ a, atI xs i = some a := by
    unfold atI ixN
    by_cases h0 : 0 ≤ i
    · rw [if_pos h0, if_pos h2]
      exact ⟨_, List.getElem?_eq_getElem (by omega)⟩
    · rw [if_neg h0, if_pos h1]
      exact ⟨_, List.getElem?_eq_getElem (by omega)⟩
  obtain ⟨a, e⟩ := this
  rw [e]
  rfl
theorem atI_map {α β : Type} (f : α → β) (xs : List α) (i : Int) : atI (xs.map f) i = (atI xs i).map f := by
  unfold atI
  rw [List.length_map]
  cases ixN xs.length i with
  | none => rfl
  | some j => simp
theorem ix_nat {α : Type} [Inhabited α] (xs : List α) (n : Nat) (h : n < xs.length) : ix xs (n : Int) = xs[n] := by
  unfold ix atI ixN
  rw [if_pos (by omega), if_pos (by omega)]
  simp [h]
theorem item_T {α : Type} [Inhabited α] {e : α → DV} {xs : List α} {i : Int} {st : Store} (h : inR xs.length i) : item (.d (eT e xs)) (.d (.int i)) st = some (.d (e (ix xs i))) := by
  show (match atI (xs.map e) i with
    | some v => some (Val.d v)
    | none => none) = _
  rw [atI_map, atI_in h]
  rfl
theorem item_L {α : Type} [Inhabited α] {e : α → DV} {xs : List α} {i : Int} {st : Store} (h : inR xs.length i) : item (.d (eL e xs)) (.d (.int i)) st = some (.d (e (ix xs i))) := by
  show (match atI (xs.map e) i with
    | some v => some (Val.d v)
    | none => none) = _
  rw [atI_map, atI_in h]
  rfl
theorem item_C {α : Type} [Inhabited α] {e : α → DV} {xs : List α} {i : Int} {st : Store} {m : Nat} (hm : st[m]? = some (cL e xs)) (h : inR xs.length i) : item (.r m) (.d (.int i)) st = some (.d (e (ix xs i))) := by
  unfold item
  simp only [hm, cL]
  rw [atI_map, atI_in h]
  rfl
/-- xs[lo:hi] -/
def slc {α : Type} (xs : List α) (lo hi : Option Int) : List α := (xs.drop (HT.sIx xs.length 0 lo)).take (HT.sIx xs.length xs.length hi - HT.sIx xs.length 0 lo)
theorem cut_map {α : Type} (e : α → DV) (xs : List α) (lo hi : Option Int) : cutD (xs.map e) lo hi = (slc xs lo hi).map e := by
  unfold cutD slc
  simp [List.map_take, List.map_drop]
theorem cut_T {α : Type} {e : α → DV} {xs : List α} {lo hi : Option Int} {st : Store} : cut (.d (eT e xs)) lo hi st = some (.d (eT e (slc xs lo hi))) := by
  show some (Val.d (.tup (cutD (xs.map e) lo hi))) = _
  rw [cut_map]
  rfl
theorem cut_L {α : Type} {e : α → DV} {xs : List α} {lo hi : Option Int} {st : Store} : cut (.d (eL e xs)) lo hi st = some (.d (eL e (slc xs lo hi))) := by
  show some (Val.d (.lst (cutD (xs.map e) lo hi))) = _
  rw [cut_map]
  rfl
theorem pureL_e {α : Type} (e : α → DV) (xs : List α) : pureL (xs.map fun x => Val.d (e x)) = some (xs.map e) := by
  have := pureL_d (xs.map e)
  rwa [List.map_map] at this
theorem cut_C {α : Type} {e : α → DV} {xs : List α} {lo hi : Option Int} {st : Store} {m : Nat} (hm : st[m]? = some (cL e xs)) : cut (.r m) lo hi st = some (.d (eL e (slc xs lo hi))) := by
  unfold cut
  simp only [hm, cL, pureL_e, cut_map]
  rfl
/-! ### built-ins -/
theorem len_T {α : Type} {e : α → DV} {xs : List α} {st : Store} : biLen (.d (eT e xs)) st = some (.d (.int xs.length)) := by
  show some (Val.d (.int ((xs.map e).map Val.d).length)) = _
  simp
theorem len_L {α : Type} {e : α → DV} {xs : List α} {st : Store} : biLen (.d (eL e xs)) st = some (.d (.int xs.length)) := by
  show some (Val.d (.int ((xs.map e).map Val.d).length)) = _
  simp
theorem len_C {α : Type} {e : α → DV} {xs : List α} {st : Store} {m : Nat} (hm : st[m]? = some (cL e xs)) : biLen (.r m) st = some (.d (.int xs.length)) := by
  unfold biLen seqOf
  simp only [hm, cL]
  simp
theorem ins_C {α : Type} {e : α → DV} {xs : List α} {st : Store} {m : Nat} (hm : st[m]? = some (cL e xs)) : insOf (.r m) st = none := by
  unfold insOf
  simp only [hm, cL]
theorem sum_T {xs : List Int} {st : Store} : f1 biSum [.d (eT DV.int xs)] st = some (.d (.int xs.sum)) := by
  show (match intsOf (xs.map DV.int) with
    | some is => some (Val.d (.int is.sum))
    | none => none) = _
  rw [ints_of_map]
theorem sum_L {xs : List Int} {st : Store} : f1 biSum [.d (eL DV.int xs)] st = some (.d (.int xs.sum)) := by
  show (match intsOf (xs.map DV.int) with
    | some is => some (Val.d (.int is.sum))
    | none => none) = _
  rw [ints_of_map]
theorem max_L {xs : List Int} {st : Store} (h : xs ≠ []) : f1 (fun v => biInts v fun is => if is.isEmpty then none else some (maxI is)) [.d (eL DV.int xs)] st = some (.d (.int (maxI xs))) := by
  show (match intsOf (xs.map DV.int) with
    | some is => (match (if is.isEmpty then none else some (maxI is)) with
      | some i => some (Val.d (.int i))
      | none => none)
    | none => none) = _
  rw [ints_of_map]
  dsimp only
  rw [if_neg (by simpa using h)]
theorem min_L {xs : List Int} {st : Store} (h : xs ≠ []) : f1 (fun v => biInts v fun is => if is.isEmpty then none else some (minI is)) [.d (eL DV.int xs)] st = some (.d (.int (minI xs))) := by
  show (match intsOf (xs.map DV.int) with
    | some is => (match (if is.isEmpty then none else some (minI is)) with
      | some i => some (Val.d (.int i))
      | none => none)
    | none => none) = _
  rw [ints_of_map]
  dsimp only
  rw [if_neg (by simpa using h)]
theorem bls_of_map : ∀ (is : List Bool), blsOf (is.map DV.bl) = some is
  | [] => rfl
  | i :: is => by
    show (match blsOf (is.map DV.bl) with
      | some xs => some (i :: xs)
      | none => none) = _
    rw [bls_of_map is]
theorem any_L {xs : List Bool} {st : Store} : f1 (fun v => biBls v fun bs => bs.any id) [.d (eL DV.bl xs)] st = some (.d (.bl (xs.any id))) := by
  show (match blsOf (xs.map DV.bl) with
    | some is => some (Val.d (.bl (is.any id)))
    | none => none) = _
  rw [bls_of_map]
theorem all_L {xs : List Bool} {st : Store} : f1 (fun v => biBls v fun bs => bs.all id) [.d (eL DV.bl xs)] st = some (.d (.bl (xs.all id))) := by
  show (match blsOf (xs.map DV.bl) with
    | some is => some (Val.d (.bl (is.all id)))
    | none => none) = _
  rw [bls_of_map]
theorem tuple_L {α : Type} {e : α → DV} {xs : List α} {st : Store} : f1 biTuple [.d (eL e xs)] st = some (.d (eT e xs)) := rfl
theorem tuple_T {α : Type} {e : α → DV} {xs : List α} {st : Store} : f1 biTuple [.d (eT e xs)] st = some (.d (eT e xs)) := rfl
theorem dseq_C {α : Type} {e : α → DV} {xs : List α} {st : Store} {m : Nat} (hm : st[m]? = some (cL e xs)) : dseqOf (.r m) st = some (xs.map e) := by
  unfold dseqOf
  simp only [hm, cL, pureL_e]
theorem tuple_C {α : Type} {e : α → DV} {xs : List α} {st : Store} {m : Nat} (hm : st[m]? = some (cL e xs)) : f1 biTuple [.r m] st = some (.d (eT e xs)) := by
  show biTuple (.r m) st = _
  unfold biTuple
  rw [dseq_C hm]
  rfl
theorem list_L {α : Type} {e : α → DV} {xs : List α} {st : Store} : f1 biList [.d (eL e xs)] st = some (.d (eL e xs)) := rfl
theorem list_T {α : Type} {e : α → DV} {xs : List α} {st : Store} : f1 biList [.d (eT e xs)] st = some (.d (eL e xs)) := rfl
theorem list_C {α : Type} {e : α → DV} {xs : List α} {st : Store} {m : Nat} (hm : st[m]? = some (cL e xs)) : f1 biList [.r m] st = some (.d (eL e xs)) := by
  show biList (.r m) st = _
  unfold biList
  rw [dseq_C hm]
  rfl
theorem sum_C {xs : List Int} {st : Store} {m : Nat} (hm : st[m]? = some (cL DV.int xs)) : f1 biSum [.r m] st = some (.d (.int xs.sum)) := by
  show biSum (.r m) st = _
  unfold biSum
  rw [dseq_C hm]
  dsimp only
  rw [ints_of_map]
theorem int_i {i : Int} {st : Store} : f1 biInt [.d (.int i)] st = some (.d (.int i)) := rfl
theorem int_b {b : Bool} {st : Store} : f1 biInt [.d (.bl b)] st = some (.d (.int (if b then 1 else 0))) := rfl
def absI (i : Int) : Int := if i < 0 then -i else i
theorem abs_i {i : Int} {st : Store} : f1 biAbs [.d (.int i)] st = some (.d (.int (absI i))) := rfl
def min2 (i j : Int) : Int := if j < i then j else i
def max2 (i j : Int) : Int := if j > i then j else i
theorem min2_i {i j : Int} {st : Store} : f2 (bi2 fun i j => if j < i then j else i) [.d (.int i), .d (.int j)] st = some (.d (.int (min2 i j))) := rfl
theorem max2_i {i j : Int} {st : Store} : f2 (bi2 fun i j => if j > i then j else i) [.d (.int i), .d (.int j)] st = some (.d (.int (max2 i j))) := rfl
theorem tups_of_map : ∀ (xs : List (List Int)), tupsOf (xs.map (eT DV.int)) = some xs
  | [] => rfl
  | x :: xs => by
    show (match intsOf (x.map DV.int) with
      | some is => (match tupsOf (xs.map (eT DV.int)) with
        | some ys => some (is :: ys)
        | none => none)
      | none => none) = _
    rw [ints_of_map, tups_of_map xs]
/-- what sorted takes of tuples -/
def okSort (ts : List (List Int)) : Prop := ts.length < 64 ∧ ((likeT (headLen ts) ts && decide (0 < headLen ts) || decide (ts.length < 2)) = true)
theorem sorted_d {v : Val} {ds : List DV} {ts : List (List Int)} {st : Store} (hv : isTup v = false) (hd : dseqOf v st = some ds) (e : ds = ts.map (eT DV.int)) (h : okSort ts) : f1 biSorted [v] st = some (.d (eL (eT DV.int) (sortT ts))) := by
  subst e
  show biSorted v st = _
  unfold biSorted
  rw [hv, hd]
  dsimp only
  rw [if_neg (by simp), if_pos (by simpa using h.1), tups_of_map]
  dsimp only
  rw [if_pos h.2]
  rfl
theorem sorted_L {ts : List (List Int)} {st : Store} (h : okSort ts) : f1 biSorted [.d (eL (eT DV.int) ts)] st = some (.d (eL (eT DV.int) (sortT ts))) := sorted_d rfl rfl rfl h
theorem sorted_C {ts : List (List Int)} {st : Store} {m : Nat} (hm : st[m]? = some (cL (eT DV.int) ts)) (h : okSort ts) : f1 biSorted [.r m] st = some (.d (eL (eT DV.int) (sortT ts))) := sorted_d rfl (dseq_C hm) rfl h
def okSortSet (ts : List (List Int)) : Prop := ts.length < 64 ∧ likeT (headLen ts) ts = true
theorem ssorted_d {v : Val} {ds : List DV} {ts : List (List Int)} {st : Store} (hv : isTup v = false) (hd : dseqOf v st = some ds) (e : ds = ts.map (eT DV.int)) (h : okSortSet ts) : biSortedSet v st = some (.d (eL (eT DV.int) (sortT (dedup ts)))) := by
  subst e
  unfold biSortedSet
  rw [hv, hd]
  dsimp only
  rw [if_neg (by simp), if_pos (by simpa using h.1), tups_of_map]
  dsimp only
  rw [if_pos h.2]
  rfl
theorem ssorted_L {ts : List (List Int)} {st : Store} (h : okSortSet ts) : biSortedSet (.d (eL (eT DV.int) ts)) st = some (.d (eL (eT DV.int) (sortT (dedup ts)))) := ssorted_d rfl rfl rfl h
theorem ssorted_C {ts : List (List Int)} {st : Store} {m : Nat} (hm : st[m]? = some (cL (eT DV.int) ts)) (h : okSortSet ts) : biSortedSet (.r m) st = some (.d (eL (eT DV.int) (sortT (dedup ts)))) := ssorted_d rfl (dseq_C hm) rfl h
def idxOf (x : Int) (xs : List Int) : Int := ((idxI x xs).getD 0 : Nat)
theorem idxI_in {x : Int} : ∀ {xs : List Int}, x ∈ xs → idxI x xs = some ((idxI x xs).getD 0)
  | y :: ys, h => by
    by_cases e : y = x
    · unfold idxI; rw [if_pos e]; rfl
    · rcases List.mem_cons.mp h with h | h
      · exact absurd h.symm e
      · unfold idxI
        rw [if_neg e, idxI_in h]
        rfl
theorem index_L {xs : List Int} {i : Int} {st : Store} (h : i ∈ xs) : indexM (.d (eL DV.int xs)) [.d (.int i)] st = .ok (.d (.int (idxOf i xs))) st := by
  unfold indexM
  rw [liftP_ap]
  have e : isTup (.d (eL DV.int xs)) = false := rfl
  have e2 : dseqOf (.d (eL DV.int xs)) st = some (xs.map DV.int) := rfl
  have e3 := idxI_in h
  simp only [e, e2, ints_of_map]
  rw [e3]
  rfl
theorem E_meX {G : Glob} {call : Key2 → List Val → M Val} {o : M Val} {es : List (M Val)} {st s1 s2 : Store} {x v : Val} {vs : List Val} (ho : Ev o st x s1) (hi : insOf x s1 = none) (hr : recvL x = true) (hs : Ev (lsM es) s1 vs s2) (hx : indexM x vs s2 = .ok v s2) : Ev (meM G call o "index" es) st v s2 := by
  refine Ev_bind ho ?_
  show (match insOf x s1 with
    | some (c, ns) => _
    | none => if recvL x = true then (if ("index" : Str) = "append" then ((lsM es >>= fun vs => appM x vs) s1) else if ("index" : Str) = "index" then ((lsM es >>= fun vs => indexM x vs) s1) else Res.bad) else Res.bad) = _
  rw [hi]
  dsimp only
  rw [if_pos hr, if_neg (by decide), if_pos rfl]
  exact Ev_bind hs hx
theorem E_meA {G : Glob} {call : Key2 → List Val → M Val} {o : M Val} {es : List (M Val)} {st s1 s2 s3 : Store} {m : Nat} {x : Val} (ho : Ev o st (.r m) s1) (hi : insOf (.r m) s1 = none) (hs : Ev (lsM es) s1 [x] s2) {xs : List Val} (hm : s2[m]? = some (.lst xs)) (hl : xs.length < lim) (h3 : s2.set m (.lst (xs ++ [x])) = s3) : Ev (meM G call o "append" es) st (.d .non) s3 := by
  refine Ev_bind ho ?_
  show (match insOf (.r m) s1 with
    | some (c, ns) => _
    | none => if recvL (.r m) = true then (if ("append" : Str) = "append" then ((lsM es >>= fun vs => appM (.r m) vs) s1) else _) else Res.bad) = _
  rw [hi]
  dsimp only
  rw [if_pos (show recvL (.r m) = true from rfl)]
  refine Ev_bind hs ?_
  show (match s2[m]? with
    | some (.lst xs) => if xs.length < lim then Res.ok (Val.d .non) (s2.set m (.lst (xs ++ [x]))) else .bad
    | _ => .bad) = _
  rw [hm]
  dsimp only
  rw [if_pos hl, h3]
end IP

set_option maxHeartbeats 4000000
/-! IPT3: typed readings of statements. -/
namespace IP
open PySem L2
/-- no cell points past the store -/
def Closed (st : Store) : Prop := st.all (Cell.low st.length) = true
theorem Val.low_mono {n m : Nat} (h : n ≤ m) {v : Val} (hv : v.low n = true) : v.low m = true := by
  cases v with
  | r k =>
    have : k < n := of_decide_eq_true hv
    exact decide_eq_true (by omega)
  | _ => rfl
theorem Cell.low_mono {n m : Nat} (h : n ≤ m) {c : Cell} (hv : c.low n = true) : c.low m = true := by
  cases c with
  | lst xs =>
    refine List.all_eq_true.mpr fun x hx => Val.low_mono h (List.all_eq_true.mp hv x hx)
  | obj a b xs =>
    refine List.all_eq_true.mpr fun x hx => Val.low_mono h (List.all_eq_true.mp hv x hx)
theorem low_cL {α : Type} (e : α → DV) (xs : List α) (n : Nat) : (cL e xs).low n = true := by
  refine List.all_eq_true.mpr fun x hx => ?_
  obtain ⟨y, _, rfl⟩ := List.mem_map.mp hx
  rfl
theorem Closed.app {st L : Store} (h : Closed st) (hL : L.all (Cell.low (st ++ L).length) = true) : Closed (st ++ L) := by
  unfold Closed at *
  rw [List.all_append, hL, Bool.and_true]
  exact List.all_eq_true.mpr fun c hc => Cell.low_mono (by simp) (List.all_eq_true.mp h c hc)
theorem Closed.loc1 {α : Type} {e : α → DV} {xs : List α} {st : Store} (h : Closed st) : Closed (st ++ [cL e xs]) := h.app (by simp [low_cL])
theorem Closed.loc2 {α β : Type} {e : α → DV} {f : β → DV} {xs : List α} {ys : List β} {st : Store} (h : Closed st) : Closed (st ++ [cL e xs, cL f ys]) := h.app (by simp [low_cL])
theorem Closed.loc3 {α β γ : Type} {e : α → DV} {f : β → DV} {g : γ → DV} {xs : List α} {ys : List β} {zs : List γ} {st : Store} (h : Closed st) : Closed (st ++ [cL e xs, cL f ys, cL g zs]) := h.app (by simp [low_cL])
theorem trunc_app {st L : Store} (h : Closed st) : trunc st.length (st ++ L) = st := by
  unfold trunc
  rw [List.take_left]
  unfold Closed at h
  rw [if_pos h]

/-! ### ends of a body -/
/-- a body that ends with p: its value and the store, but for new cells -/
def EndsS (p : Val × Store) (r : SR) : Prop := ∃ env L, r = .ok (.ret p.1) env (p.2 ++ L) ∨ (p.1 = .d .non ∧ r = .ok .next env (p.2 ++ L)) ∨
  (∃ n vs ds, r = .ok (.ret (.r n)) env (p.2 ++ L) ∧ p.2.length ≤ n ∧ (p.2 ++ L)[n]? = some (.lst vs) ∧ pureL vs = some ds ∧ p.1 = .d (.lst ds))
def RetS {ρ : Type} (rv : ρ → Val × Store) (r : SR) (w : ρ) : Prop := EndsS (rv w) r
theorem fn_end {ρ : Type} {rv : ρ → Val × Store} {r : SR} {w : ρ} {st : Store} {d : DV} {st' : Store} (h : RetS rv r w) (hd : rv w = (.d d, st')) (hl : st'.length = st.length) (hc : Closed st') : endR st.length false r = .ok (.d d) st' := by
  unfold RetS at h
  rw [hd] at h
  obtain ⟨env, L, h | ⟨h1, h⟩ | ⟨n, vs, ds, h, h1, h2, h3, h4⟩⟩ := h
  · rw [h]
    show Res.ok (Val.d d) (trunc st.length (st' ++ L)) = _
    rw [← hl, trunc_app hc]
  · rw [h]
    cases h1
    show Res.ok (Val.d .non) (trunc st.length (st' ++ L)) = _
    rw [← hl, trunc_app hc]
  · rw [h]
    cases h4
    show fin st.length false (.r n) (st' ++ L) = _
    have h1 : st'.length ≤ n := h1
    have h2 : (st' ++ L)[n]? = some (.lst vs) := h2
    unfold fin
    dsimp only
    rw [if_neg (by omega), if_neg (by simp), h2]
    dsimp only
    rw [h3]
    dsimp only
    rw [← hl, List.take_left]
    unfold Closed at hc
    rw [if_pos hc]
theorem retS_bl {e : Env → M Val} {ss : List SM} {env : Env} {st s1 : Store} {v : Val} (he : Ev (e env) st v s1) : blS (retS e :: ss) env st = .ok (.ret v) env s1 := by
  have h1 : retS e env st = .ok (.ret v) env s1 := by
    unfold retS withV
    rw [show e env st = _ from he]
  unfold blS seqS
  rw [h1]
theorem Q_ret0 {ρ : Type} {rv : ρ → Val × Store} {w : ρ} {e : Env → M Val} {ss : List SM} {env : Env} {st : Store} (he : Ev (e env) st (rv w).1 (rv w).2) : RetS rv (blS (retS e :: ss) env st) w := by
  refine ⟨env, [], .inl ?_⟩
  rw [List.append_nil]
  exact retS_bl he
theorem Q_retL {ρ : Type} {rv : ρ → Val × Store} {w : ρ} {e : Env → M Val} {ss : List SM} {env : Env} {st L : Store} (he : Ev (e env) st (rv w).1 ((rv w).2 ++ L)) : RetS rv (blS (retS e :: ss) env st) w := by
  refine ⟨env, L, .inl ?_⟩
  exact retS_bl he
/-- a cell of its own handed back -/
theorem Q_retC {α ρ : Type} {rv : ρ → Val × Store} {w : ρ} {e : Env → M Val} {ss : List SM} {env : Env} {st L : Store} {n : Nat} {en : α → DV} {xs : List α} (he : Ev (e env) st (.r n) ((rv w).2 ++ L)) (hn : (rv w).2.length ≤ n) (hg : ((rv w).2 ++ L)[n]? = some (cL en xs)) (hv : (rv w).1 = .d (eL en xs)) : RetS rv (blS (retS e :: ss) env st) w := by
  refine ⟨env, L, .inr (.inr ⟨n, _, _, ?_, hn, hg, pureL_e en xs, hv⟩)⟩
  exact retS_bl he
theorem Q_next0 {ρ : Type} {rv : ρ → Val × Store} {w : ρ} {env : Env} {st : Store} (h1 : (rv w).1 = .d .non) (h2 : st = (rv w).2) : RetS rv (blS [] env st) w := by
  refine ⟨env, [], .inr (.inl ⟨h1, ?_⟩)⟩
  rw [h2, List.append_nil]
  rfl
theorem Q_nextL {ρ : Type} {rv : ρ → Val × Store} {w : ρ} {env : Env} {st L : Store} (h1 : (rv w).1 = .d .non) (h2 : st = (rv w).2 ++ L) : RetS rv (blS [] env st) w := by
  refine ⟨env, L, .inr (.inl ⟨h1, ?_⟩)⟩
  rw [h2]
  rfl
/-- a block that falls through -/
def FallS {τ J : Type} (E : τ → J → Env) (S : τ → Store) (r : SR) (x : τ) : Prop := ∃ j, r = .ok .next (E x j) (S x)
def FallC {τ J : Type} (E : τ → J → Env) (S : τ → Store) (r : SR) (x : τ) : Prop := ∃ j, r = .ok .next (E x j) (S x) ∨ r = .ok .cont (E x j) (S x)
theorem Q_fall {τ J : Type} {E : τ → J → Env} {S : τ → Store} {env : Env} {st : Store} {x : τ} (j : J) (h1 : env = E x j) (h2 : st = S x) : FallS E S (blS [] env st) x := ⟨j, by rw [h1, h2]; rfl⟩
theorem Q_fallC {τ J : Type} {E : τ → J → Env} {S : τ → Store} {env : Env} {st : Store} {x : τ} (j : J) (h1 : env = E x j) (h2 : st = S x) : FallC E S (blS [] env st) x := ⟨j, .inl (by rw [h1, h2]; rfl)⟩
theorem Q_cont {τ J : Type} {E : τ → J → Env} {S : τ → Store} {env : Env} {st : Store} {x : τ} {ss : List SM} (j : J) (h1 : env = E x j) (h2 : st = S x) : FallC E S (blS (conS :: ss) env st) x := ⟨j, .inr (by rw [h1, h2]; rfl)⟩
/-- a turn of a loop that may end it -/
inductive LO (σ ρ : Type) where
  | nx (s : σ) | br (s : σ) | rt (r : ρ)
def OutQ {σ J ρ : Type} (E : σ → J → Env) (S : σ → Store) (Qr : SR → ρ → Prop) (r : SR) (o : LO σ ρ) : Prop := match o with
  | .nx s => FallC E S r s
  | .br s => ∃ j, r = .ok .brk (E s j) (S s)
  | .rt w => Qr r w ∧ ∀ env st, r ≠ .ok .next env st ∧ r ≠ .ok .cont env st ∧ r ≠ .ok .brk env st
theorem Q_nx {σ J ρ : Type} {E : σ → J → Env} {S : σ → Store} {Qr : SR → ρ → Prop} {env : Env} {st : Store} {x : σ} (j : J) (h1 : env = E x j) (h2 : st = S x) : OutQ E S Qr (blS [] env st) (.nx x) := ⟨j, .inl (by rw [h1, h2]; rfl)⟩
theorem Q_nxc {σ J ρ : Type} {E : σ → J → Env} {S : σ → Store} {Qr : SR → ρ → Prop} {env : Env} {st : Store} {x : σ} {ss : List SM} (j : J) (h1 : env = E x j) (h2 : st = S x) : OutQ E S Qr (blS (conS :: ss) env st) (.nx x) := ⟨j, .inr (by rw [h1, h2]; rfl)⟩
theorem Q_brk {σ J ρ : Type} {E : σ → J → Env} {S : σ → Store} {Qr : SR → ρ → Prop} {env : Env} {st : Store} {x : σ} {ss : List SM} (j : J) (h1 : env = E x j) (h2 : st = S x) : OutQ E S Qr (blS (brkS :: ss) env st) (.br x) := ⟨j, by rw [h1, h2]; rfl⟩
section
variable {ρ : Type} {Q : SR → ρ → Prop}
theorem S_skip {ss : List SM} {env : Env} {st : Store} {w : ρ} (h : Q (blS ss env st) w) : Q (blS (skipS :: ss) env st) w := h
theorem exprS_bl {e : Env → M Val} {ss : List SM} {env : Env} {st s1 : Store} {v : Val} (he : Ev (e env) st v s1) : blS (exprS e :: ss) env st = blS ss env s1 := by
  have h1 : exprS e env st = .ok .next env s1 := by
    unfold exprS withV
    rw [show e env st = _ from he]
  rw [show blS (exprS e :: ss) env st = seqS (exprS e) (blS ss) env st from rfl]
  unfold seqS
  rw [h1]
theorem S_expr {e : Env → M Val} {ss : List SM} {env : Env} {st s1 : Store} {v : Val} {w : ρ} (he : Ev (e env) st v s1) (h : Q (blS ss env s1) w) : Q (blS (exprS e :: ss) env st) w := by
  rw [exprS_bl he]
  exact h
theorem asgS_bl {i : Nat} {e : Env → M Val} {ss : List SM} {env : Env} {st s1 : Store} {v : Val} (he : Ev (e env) st v s1) : blS (asgS i e :: ss) env st = blS ss (env.set i (some v)) s1 := by
  have h1 : asgS i e env st = .ok .next (env.set i (some v)) s1 := by
    unfold asgS withV
    rw [show e env st = _ from he]
  rw [show blS (asgS i e :: ss) env st = seqS (asgS i e) (blS ss) env st from rfl]
  unfold seqS
  rw [h1]
theorem S_asg {α : Type} {en : α → DV} {i : Nat} {e : Env → M Val} {ss : List SM} {env : Env} {st s1 : Store} {v : α} {okR : α → Prop} {vR : α → ρ} {env' : α → Env} (he : Ev (e env) st (.d (en v)) s1) (henv : ∀ x, env.set i (some (.d (en x))) = env' x) (h : lt v okR) (hR : ∀ x, okR x → Q (blS ss (env' x) s1) (vR x)) : Q (blS (asgS i e :: ss) env st) (lt v vR) := by
  rw [asgS_bl he, henv]
  exact hR v h
theorem S_asg0 {α : Type} {en : α → DV} {i : Nat} {e : Env → M Val} {ss : List SM} {env : Env} {st s1 : Store} {v : α} {vR : α → ρ} {env' : α → Env} (he : Ev (e env) st (.d (en v)) s1) (henv : ∀ x, env.set i (some (.d (en x))) = env' x) (hR : ∀ x, Q (blS ss (env' x) s1) (vR x)) : Q (blS (asgS i e :: ss) env st) (lt v vR) := by
  rw [asgS_bl he, henv]
  exact hR v
/-- a name bound to a value as it is written -/
theorem S_asgv {i : Nat} {e : Env → M Val} {ss : List SM} {env env' : Env} {st s1 : Store} {v : Val} {w : ρ} (he : Ev (e env) st v s1) (henv : env.set i (some v) = env') (hR : Q (blS ss env' s1) w) : Q (blS (asgS i e :: ss) env st) w := by
  rw [asgS_bl he, henv]
  exact hR
/-- a part of the store by a name -/
theorem S_gen {σ : Type} {S : σ → Store} {ss : List SM} {env : Env} {b : σ} {okR : σ → Prop} {vR : σ → ρ} (h : lt b okR) (hR : ∀ b, okR b → Q (blS ss env (S b)) (vR b)) : Q (blS ss env (S b)) (lt b vR) := hR b h
theorem S_gen0 {σ : Type} {S : σ → Store} {ss : List SM} {env : Env} {b : σ} {vR : σ → ρ} (hR : ∀ b, Q (blS ss env (S b)) (vR b)) : Q (blS ss env (S b)) (lt b vR) := hR b
theorem asgT_bl {is : List Nat} {e : Env → M Val} {ss : List SM} {env env' : Env} {st s1 : Store} {v : Val} (he : Ev (e env) st v s1) (ht : tgs is v env = some env') : blS (asgT is e :: ss) env st = blS ss env' s1 := by
  have h1 : asgT is e env st = .ok .next env' s1 := by
    unfold asgT withV
    rw [show e env st = _ from he]
    dsimp only
    rw [ht]
  rw [show blS (asgT is e :: ss) env st = seqS (asgT is e) (blS ss) env st from rfl]
  unfold seqS
  rw [h1]
theorem S_asgT {α : Type} {en : α → DV} {is : List Nat} {e : Env → M Val} {ss : List SM} {env : Env} {st s1 : Store} {v : α} {okR : α → Prop} {vR : α → ρ} {env' : α → Env} (he : Ev (e env) st (.d (en v)) s1) (henv : ∀ x, tgs is (.d (en x)) env = some (env' x)) (h : lt v okR) (hR : ∀ x, okR x → Q (blS ss (env' x) s1) (vR x)) : Q (blS (asgT is e :: ss) env st) (lt v vR) := by
  rw [asgT_bl he (henv v)]
  exact hR v h
theorem S_asgT0 {α : Type} {en : α → DV} {is : List Nat} {e : Env → M Val} {ss : List SM} {env : Env} {st s1 : Store} {v : α} {vR : α → ρ} {env' : α → Env} (he : Ev (e env) st (.d (en v)) s1) (henv : ∀ x, tgs is (.d (en x)) env = some (env' x)) (hR : ∀ x, Q (blS ss (env' x) s1) (vR x)) : Q (blS (asgT is e :: ss) env st) (lt v vR) := by
  rw [asgT_bl he (henv v)]
  exact hR v
theorem augS_bl {op : Operator} {i : Nat} {e : Env → M Val} {ss : List SM} {env : Env} {st s1 : Store} {a b c : Int} (ha : env[i]? = some (some (.d (.int a)))) (he : Ev (e env) st (.d (.int b)) s1) (hb : binI op a b = some (.d (.int c))) : blS (augS op i e :: ss) env st = blS ss (env.set i (some (.d (.int c)))) s1 := by
  rw [show blS (augS op i e :: ss) env st = seqS (augS op i e) (blS ss) env st from rfl]
  unfold seqS
  have : augS op i e env st = .ok .next (env.set i (some (.d (.int c)))) s1 := by
    unfold augS
    rw [ha]
    unfold withV
    dsimp only
    rw [show e env st = _ from he]
    dsimp only
    rw [hb]
    rfl
  rw [this]
theorem S_aug {op : Operator} {i : Nat} {e : Env → M Val} {ss : List SM} {env : Env} {st s1 : Store} {a b v : Int} {okR : Int → Prop} {vR : Int → ρ} {env' : Int → Env} (ha : env[i]? = some (some (.d (.int a)))) (he : Ev (e env) st (.d (.int b)) s1) (hb : binI op a b = some (.d (.int v))) (henv : ∀ x, env.set i (some (.d (.int x))) = env' x) (h : lt v okR) (hR : ∀ x, okR x → Q (blS ss (env' x) s1) (vR x)) : Q (blS (augS op i e :: ss) env st) (lt v vR) := by
  rw [augS_bl ha he hb, henv]
  exact hR v h
theorem S_aug0 {op : Operator} {i : Nat} {e : Env → M Val} {ss : List SM} {env : Env} {st s1 : Store} {a b v : Int} {vR : Int → ρ} {env' : Int → Env} (ha : env[i]? = some (some (.d (.int a)))) (he : Ev (e env) st (.d (.int b)) s1) (hb : binI op a b = some (.d (.int v))) (henv : ∀ x, env.set i (some (.d (.int x))) = env' x) (hR : ∀ x, Q (blS ss (env' x) s1) (vR x)) : Q (blS (augS op i e :: ss) env st) (lt v vR) := by
  rw [augS_bl ha he hb, henv]
  exact hR v
theorem asgI_bl {o ie e : Env → M Val} {ss : List SM} {env : Env} {st s1 s2 s3 s4 : Store} {v : Val} {n : Nat} {k : Int} {xs : List Val} {j : Nat} (he : Ev (e env) st v s1) (ho : Ev (o env) s1 (.r n) s2) (hi : Ev (ie env) s2 (.d (.int k)) s3) (hm : s3[n]? = some (.lst xs)) (hj : ixN xs.length k = some j) (h4 : s3.set n (.lst (xs.set j v)) = s4) : blS (asgI o ie e :: ss) env st = blS ss env s4 := by
  rw [show blS (asgI o ie e :: ss) env st = seqS (asgI o ie e) (blS ss) env st from rfl]
  unfold seqS
  have : asgI o ie e env st = .ok .next env s4 := by
    unfold asgI withV
    rw [show e env st = _ from he]
    dsimp only
    rw [show o env s1 = _ from ho]
    dsimp only
    rw [show ie env s2 = _ from hi]
    dsimp only
    unfold setItemM
    dsimp only
    rw [hm]
    dsimp only
    rw [hj]
    dsimp only
    rw [h4]
  rw [this]
theorem S_asgI {o ie e : Env → M Val} {ss : List SM} {env : Env} {st s1 s2 s3 s4 : Store} {v : Val} {n : Nat} {k : Int} {xs : List Val} {j : Nat} {w : ρ} (he : Ev (e env) st v s1) (ho : Ev (o env) s1 (.r n) s2) (hi : Ev (ie env) s2 (.d (.int k)) s3) (hm : s3[n]? = some (.lst xs)) (hj : ixN xs.length k = some j) (h4 : s3.set n (.lst (xs.set j v)) = s4) (hR : Q (blS ss env s4) w) : Q (blS (asgI o ie e :: ss) env st) w := by
  rw [asgI_bl he ho hi hm hj h4]
  exact hR
theorem blS_app : ∀ (A ss : List SM) (env : Env) (st : Store), seqS (blS A) (blS ss) env st = blS (A ++ ss) env st
  | [], ss, env, st => rfl
  | a :: A, ss, env, st => by
    rw [show blS (a :: A) = seqS a (blS A) from rfl, show blS (a :: A ++ ss) = seqS a (blS (A ++ ss)) from rfl]
    show seqS (seqS a (blS A)) (blS ss) env st = seqS a (blS (A ++ ss)) env st
    unfold seqS
    cases h : a env st with
    | ok f e s =>
      cases f with
      | next =>
        dsimp only
        rw [← blS_app A ss e s]
        rfl
      | _ => rfl
    | _ => rfl
theorem ifS_bl {c : Env → M Bool} {A B ss : List SM} {env : Env} {st s1 : Store} {t : Bool} (hc : Ev (c env) st t s1) : blS (ifS c (blS A) (blS B) :: ss) env st = if t then blS (A ++ ss) env s1 else blS (B ++ ss) env s1 := by
  have h1 : ifS c (blS A) (blS B) env st = if t = true then blS A env s1 else blS B env s1 := by
    unfold ifS withV
    rw [show c env st = _ from hc]
  rw [show blS (ifS c (blS A) (blS B) :: ss) env st = seqS (ifS c (blS A) (blS B)) (blS ss) env st from rfl]
  unfold seqS
  rw [h1]
  cases t with
  | true =>
    rw [if_pos rfl, if_pos rfl, ← blS_app A ss env s1]
    rfl
  | false =>
    rw [if_neg (by simp), if_neg (by simp), ← blS_app B ss env s1]
    rfl
theorem S_if {c : Env → M Bool} {A B ss : List SM} {env : Env} {st s1 : Store} {t : Bool} {x y : ρ} (hc : Ev (c env) st t s1) (h1 : t = true → Q (blS (A ++ ss) env s1) x) (h0 : t = false → Q (blS (B ++ ss) env s1) y) : Q (blS (ifS c (blS A) (blS B) :: ss) env st) (if t then x else y) := by
  rw [ifS_bl hc]
  cases t with
  | true => exact h1 rfl
  | false => exact h0 rfl
/-- the one branch raises: it is not gone -/
theorem S_ifN {c : Env → M Bool} {A B ss : List SM} {env : Env} {st s1 : Store} {t : Bool} {w : ρ} (hc : Ev (c env) st t s1) (ht : t = false) (h : Q (blS (B ++ ss) env s1) w) : Q (blS (ifS c (blS A) (blS B) :: ss) env st) w := by
  rw [ifS_bl hc, ht]
  exact h
theorem S_ifP {c : Env → M Bool} {A B ss : List SM} {env : Env} {st s1 : Store} {t : Bool} {w : ρ} (hc : Ev (c env) st t s1) (ht : t = true) (h : Q (blS (A ++ ss) env s1) w) : Q (blS (ifS c (blS A) (blS B) :: ss) env st) w := by
  rw [ifS_bl hc, ht]
  exact h
/-- both branches fall through -/
theorem S_ifJ {τ J : Type} {E : τ → J → Env} {S : τ → Store} {c : Env → M Bool} {A B ss : List SM} {env : Env} {st s1 : Store} {t : Bool} {x y : τ} {okR : τ → Prop} {vR : τ → ρ} (hc : Ev (c env) st t s1) (h1 : t = true → FallS E S (blS A env s1) x) (h0 : t = false → FallS E S (blS B env s1) y) (h : lt (if t then x else y) okR) (hR : ∀ x j, okR x → Q (blS ss (E x j) (S x)) (vR x)) : Q (blS (ifS c (blS A) (blS B) :: ss) env st) (lt (if t then x else y) vR) := by
  rw [ifS_bl hc]
  cases t with
  | true =>
    obtain ⟨j, e⟩ := h1 rfl
    rw [if_pos rfl, ← blS_app]
    unfold seqS
    rw [e]
    exact hR x j h
  | false =>
    obtain ⟨j, e⟩ := h0 rfl
    rw [if_neg (by simp), ← blS_app]
    unfold seqS
    rw [e]
    exact hR y j h
/-! ### loops -/
def okFor {σ α : Type} (ok : σ → α → Prop) (stp : σ → α → σ) : σ → List α → Prop
  | _, [] => True
  | s, x :: xs => ok s x ∧ okFor ok stp (stp s x) xs
theorem for_ev {σ J α : Type} {E : σ → J → Env} {S : σ → Store} {tg : Val → Env → Option Env} {body : SM} {f : α → Val} {stp : σ → α → σ} {ok : σ → α → Prop}
    (hb : ∀ s x j, ok s x → ∃ env1, tg (f x) (E s j) = some env1 ∧ FallC E S (body env1 (S s)) (stp s x)) : ∀ (xs : List α) (s : σ) (j : J), okFor ok stp s xs → ∃ j', forLoop tg body (xs.map f) (E s j) (S s) = .ok .next (E (xs.foldl stp s) j') (S (xs.foldl stp s))
  | [], s, j, _ => ⟨j, rfl⟩
  | x :: xs, s, j, h => by
    obtain ⟨env1, h1, j1, h2⟩ := hb s x j h.1
    obtain ⟨j2, h3⟩ := for_ev hb xs (stp s x) j1 h.2
    refine ⟨j2, ?_⟩
    rw [List.map_cons, List.foldl_cons, ← h3]
    show (match tg (f x) (E s j) with
      | none => SR.bad
      | some e1 => match body e1 (S s) with
        | .ok .next e2 st2 => forLoop tg body (xs.map f) e2 st2
        | .ok .cont e2 st2 => forLoop tg body (xs.map f) e2 st2
        | .ok .brk e2 st2 => .ok .next e2 st2
        | r => r) = _
    rw [h1]
    dsimp only
    rcases h2 with h2 | h2 <;> rw [h2]
theorem forS_bl {src : Env → M (List Val)} {tg : Val → Env → Option Env} {b : SM} {ss : List SM} {env : Env} {st s1 : Store} {vs : List Val} (he : Ev (src env) st vs s1) : blS (forS src tg b :: ss) env st = (match forLoop tg b vs env s1 with
    | .ok .next e2 st2 => blS ss e2 st2
    | r => r) := by
  have h1 : forS src tg b env st = forLoop tg b vs env s1 := by
    unfold forS withV
    rw [show src env st = _ from he]
  rw [show blS (forS src tg b :: ss) env st = seqS (forS src tg b) (blS ss) env st from rfl]
  unfold seqS
  rw [h1]
  all_goals (cases forLoop tg b vs env s1 with
    | ok f e s => cases f <;> rfl
    | _ => rfl)
theorem S_for {σ J α : Type} {E : σ → J → Env} {S : σ → Store} {src : Env → M (List Val)} {tg : Val → Env → Option Env} {body : SM} {f : α → Val} {stp : σ → α → σ} {ok : σ → α → Prop} {ss : List SM} {env : Env} {st : Store} {xs : List α} {s0 : σ} (j0 : J) {okR : σ → Prop} {vR : σ → ρ}
    (he : Ev (src env) st (xs.map f) (S s0)) (henv : env = E s0 j0) (hok : okFor ok stp s0 xs) (hb : ∀ s x j, ok s x → ∃ env1, tg (f x) (E s j) = some env1 ∧ FallC E S (body env1 (S s)) (stp s x)) (h : lt (xs.foldl stp s0) okR) (hR : ∀ s j, okR s → Q (blS ss (E s j) (S s)) (vR s)) :
    Q (blS (forS src tg body :: ss) env st) (lt (xs.foldl stp s0) vR) := by
  obtain ⟨j, e⟩ := for_ev hb xs s0 j0 hok
  rw [forS_bl he, henv, e]
  exact hR _ j h
theorem okFor_true {σ α : Type} {stp : σ → α → σ} : ∀ (xs : List α) (s : σ), okFor (fun _ _ => True) stp s xs
  | [], _ => trivial
  | x :: xs, s => ⟨trivial, okFor_true xs _⟩
/-- a loop that may end early -/
def forO {σ α ρ : Type} (stp : σ → α → LO σ ρ) : σ → List α → LO σ ρ
  | s, [] => .nx s
  | s, x :: xs => match stp s x with
    | .nx s' => forO stp s' xs
    | .br s' => .nx s'
    | .rt r => .rt r
def okForO {σ α ρ : Type} (ok : σ → α → Prop) (stp : σ → α → LO σ ρ) : σ → List α → Prop
  | _, [] => True
  | s, x :: xs => ok s x ∧ (match stp s x with
    | .nx s' => okForO ok stp s' xs
    | _ => True)
def LO.fin {σ ρ : Type} (o : LO σ ρ) (k : σ → ρ) : ρ := match o with
  | .nx s => k s
  | .br s => k s
  | .rt r => r
def LO.okFin {σ ρ : Type} (o : LO σ ρ) (k : σ → Prop) : Prop := match o with
  | .nx s => k s
  | .br s => k s
  | .rt r => True
theorem forO_ev {σ J α : Type} {E : σ → J → Env} {S : σ → Store} {tg : Val → Env → Option Env} {body : SM} {f : α → Val} {stp : σ → α → LO σ ρ} {ok : σ → α → Prop}
    (hb : ∀ s x j, ok s x → ∃ env1, tg (f x) (E s j) = some env1 ∧ OutQ E S Q (body env1 (S s)) (stp s x)) : ∀ (xs : List α) (s : σ) (j : J), okForO ok stp s xs → OutQ E S Q (forLoop tg body (xs.map f) (E s j) (S s)) (forO stp s xs)
  | [], s, j, _ => ⟨j, .inl rfl⟩
  | x :: xs, s, j, h => by
    obtain ⟨env1, h1, h2⟩ := hb s x j h.1
    have e0 : forLoop tg body ((x :: xs).map f) (E s j) (S s) = (match body env1 (S s) with
        | .ok .next e2 st2 => forLoop tg body (xs.map f) e2 st2
        | .ok .cont e2 st2 => forLoop tg body (xs.map f) e2 st2
        | .ok .brk e2 st2 => .ok .next e2 st2
        | r => r) := by
      show (match tg (f x) (E s j) with
      | none => SR.bad
      | some e1 => match body e1 (S s) with
        | .ok .next e2 st2 => forLoop tg body (xs.map f) e2 st2
        | .ok .cont e2 st2 => forLoop tg body (xs.map f) e2 st2
        | .ok .brk e2 st2 => .ok .next e2 st2
        | r => r) = _
      rw [h1]
    rw [e0]
    have h' := h.2
    unfold forO
    cases hs : stp s x with
    | nx s' =>
      rw [hs] at h2 h'
      obtain ⟨j1, h2⟩ := h2
      have ih := forO_ev hb xs s' j1 h'
      rcases h2 with h2 | h2 <;> rw [h2] <;> exact ih
    | br s' =>
      rw [hs] at h2
      obtain ⟨j1, h2⟩ := h2
      rw [h2]
      exact ⟨j1, .inl rfl⟩
    | rt r =>
      rw [hs] at h2
      obtain ⟨h2, h3⟩ := h2
      dsimp only
      generalize body env1 (S s) = q at h2 h3
      cases q with
      | ok fl e s2 =>
        cases fl with
        | next => exact absurd rfl (h3 e s2).1
        | cont => exact absurd rfl (h3 e s2).2.1
        | brk => exact absurd rfl (h3 e s2).2.2
        | ret v => exact ⟨h2, h3⟩
      | _ => exact ⟨h2, h3⟩
/-- the loop ends at its last item, by a break, or hands a value back -/
theorem S_forO {σ J α : Type} {E : σ → J → Env} {S : σ → Store} {src : Env → M (List Val)} {tg : Val → Env → Option Env} {body : SM} {f : α → Val} {stp : σ → α → LO σ ρ} {ok : σ → α → Prop} {ss : List SM} {env : Env} {st : Store} {xs : List α} {s0 : σ} (j0 : J) {okR : σ → Prop} {vR : σ → ρ}
    (he : Ev (src env) st (xs.map f) (S s0)) (henv : env = E s0 j0) (hok : okForO ok stp s0 xs) (hb : ∀ s x j, ok s x → ∃ env1, tg (f x) (E s j) = some env1 ∧ OutQ E S Q (body env1 (S s)) (stp s x)) (h : (forO stp s0 xs).okFin okR) (hR : ∀ s j, okR s → Q (blS ss (E s j) (S s)) (vR s)) :
    Q (blS (forS src tg body :: ss) env st) ((forO stp s0 xs).fin vR) := by
  have := forO_ev hb xs s0 j0 hok
  rw [forS_bl he, henv]
  have nb : ∀ (xs : List α) (s s' : σ), forO stp s xs ≠ .br s' := by
    intro xs
    induction xs with
    | nil => intro s s' e; cases e
    | cons x xs ih =>
      intro s s' e
      unfold forO at e
      split at e
      · exact ih _ _ e
      · cases e
      · cases e
  cases hs : forO stp s0 xs with
  | nx s =>
    rw [hs] at this h
    obtain ⟨j, h2⟩ := this
    have nc : ∀ (vs : List Val) (env : Env) (st : Store) e2 s2, forLoop tg body vs env st ≠ .ok .cont e2 s2 := by
      intro vs
      induction vs with
      | nil => intro env st e2 s2 e; cases e
      | cons v vs ih =>
        intro env st e2 s2 e
        unfold forLoop at e
        split at e
        · cases e
        · split at e
          · exact ih _ _ _ _ e
          · exact ih _ _ _ _ e
          · cases e
          · rename_i q1 q2 q3
            exact q2 _ _ e
    rcases h2 with h2 | h2
    · rw [h2]
      exact hR s j h
    · exact absurd h2 (nc _ _ _ _ _)
  | br s => exact absurd hs (nb _ _ _)
  | rt r =>
    rw [hs] at this
    obtain ⟨h2, h3⟩ := this
    generalize forLoop tg body (xs.map f) (E s0 j0) (S s0) = q at h2 h3
    cases q with
    | ok fl e s2 =>
      cases fl with
      | next => exact absurd rfl (h3 e s2).1
      | cont => exact absurd rfl (h3 e s2).2.1
      | brk => exact absurd rfl (h3 e s2).2.2
      | ret v => exact h2
    | _ => exact h2
theorem OutQ_ret {σ J : Type} {E : σ → J → Env} {S : σ → Store} {ρ : Type} {Qr : SR → ρ → Prop} {w : ρ} {e : Env → M Val} {ss : List SM} {env : Env} {st : Store} (h : Qr (blS (retS e :: ss) env st) w) {v : Val} {s1 : Store} (he : Ev (e env) st v s1) : OutQ E S Qr (blS (retS e :: ss) env st) (.rt w) := by
  refine ⟨h, fun env' st' => ?_⟩
  have : blS (retS e :: ss) env st = .ok (.ret v) env s1 := by
    exact retS_bl he
  rw [this]
  refine ⟨?_, ?_, ?_⟩ <;> intro q <;> cases q
end
end IP

set_option maxHeartbeats 4000000
/-! IPT4: the store's own lemmas, the box of draws, the law's comparison. -/
namespace IP
open PySem L2
theorem getP {st L : Store} {i : Nat} {c : Cell} (h : L[i]? = some c) : (st ++ L)[st.length + i]? = some c := by
  rw [List.getElem?_append_right (by omega), Nat.add_sub_cancel_left]
  exact h
theorem setP {st L L' : Store} {i : Nat} {c : Cell} (h : L.set i c = L') : (st ++ L).set (st.length + i) c = st ++ L' := by
  rw [List.set_append_right _ _ (by omega), Nat.add_sub_cancel_left, h]
theorem lenP {st L : Store} {n : Nat} (h : L.length = n) : (st ++ L).length = st.length + n := by
  rw [List.length_append, h]
theorem appP {st L L' : Store} {c : Cell} (h : L ++ [c] = L') : (st ++ L) ++ [c] = st ++ L' := by
  rw [List.append_assoc, h]
theorem getB {x c : Cell} {r L : Store} {i : Nat} (h : L[i]? = some c) : (x :: (r ++ L))[r.length + 1 + i]? = some c := by
  rw [show r.length + 1 + i = (r.length + i) + 1 by omega, List.getElem?_cons_succ]
  exact getP h
theorem setB {x c : Cell} {r L L' : Store} {i : Nat} (h : L.set i c = L') : (x :: (r ++ L)).set (r.length + 1 + i) c = x :: (r ++ L') := by
  rw [show r.length + 1 + i = (r.length + i) + 1 by omega, List.set_cons_succ, setP h]
theorem lenB {x : Cell} {r L : Store} {n : Nat} (h : L.length = n) : (x :: (r ++ L)).length = r.length + 1 + n := by
  rw [List.length_cons, lenP h]
  omega
theorem appB {x c : Cell} {r L L' : Store} (h : L ++ [c] = L') : (x :: (r ++ L)) ++ [c] = x :: (r ++ L') := by
  rw [List.cons_append, appP h]
theorem leP {st : Store} {i : Nat} : st.length ≤ st.length + i := Nat.le_add_right _ _
theorem leB {x : Cell} {r : Store} {i : Nat} : (x :: r).length ≤ r.length + 1 + i := Nat.le_add_right _ _
theorem ne_true {b : Bool} (h : b = false) : ¬ (b = true) := by simp [h]
theorem Ev_cast {α : Type} {m : M α} {st s1 s2 : Store} {v : α} (e : s1 = s2) (h : Ev m st v s1) : Ev m st v s2 := e ▸ h
theorem tru_T {α : Type} {e : α → DV} {xs : List α} {st : Store} : tru (.d (eT e xs)) st = some (!xs.isEmpty) := by
  show some (!(xs.map e).isEmpty) = _
  cases xs <;> rfl
theorem tru_L {α : Type} {e : α → DV} {xs : List α} {st : Store} : tru (.d (eL e xs)) st = some (!xs.isEmpty) := by
  show some (!(xs.map e).isEmpty) = _
  cases xs <;> rfl
theorem tru_C {α : Type} {e : α → DV} {xs : List α} {st : Store} {m : Nat} (h : st[m]? = some (cL e xs)) : tru (.r m) st = some (!xs.isEmpty) := by
  unfold tru
  simp only [h, cL]
  cases xs <;> rfl
theorem cL_snoc {α : Type} (e : α → DV) (xs : List α) (x : α) : Cell.lst ((xs.map fun x => Val.d (e x)) ++ [Val.d (e x)]) = cL e (xs ++ [x]) := by
  unfold cL
  rw [List.map_append]
  rfl
theorem E_licE {es : List (M Val)} {st s1 s2 : Store} {vs : List Val} {n : Nat} (h : Ev (lsM es) st vs s1) (hl : s1.length = n) (ha : s1 ++ [.lst vs] = s2) : Ev (liM true es) st (.r n) s2 := by
  subst hl ha
  exact E_lic h
theorem E_lccE {α β : Type} {en : β → DV} {src : M (List Val)} {own : List Nat} {tg : Val → Env → Option Env} {cond : Env → M Bool} {elt : Env → M Val} {env : Env} {st s1 s2 : Store} {n : Nat} {f : α → Val} {e : α → Env} {p : α → Bool} {g : α → β} {xs : List α} (hs : Ev src st (xs.map f) s1) (hl : xs.length ≤ lim) (hb : ∀ x, tg (f x) (wipeE env own) = some (e x)) (hc : ∀ x ∈ xs, Ev (cond (e x)) s1 (p x) s1) (he : ∀ x ∈ xs, p x = true → Ev (elt (e x)) s1 (.d (en (g x))) s1) (hn : s1.length = n) (ha : s1 ++ [cL en ((xs.filter p).map g)] = s2) :
    Ev (lcM true src own tg cond elt env) st (.r n) s2 := by
  subst hn ha
  exact E_lcc hs hl hb hc he
theorem E_lcc0E {α β : Type} {en : β → DV} {src : M (List Val)} {own : List Nat} {tg : Val → Env → Option Env} {elt : Env → M Val} {env : Env} {st s1 s2 : Store} {n : Nat} {f : α → Val} {e : α → Env} {g : α → β} {xs : List α} (hs : Ev src st (xs.map f) s1) (hl : xs.length ≤ lim) (hb : ∀ x, tg (f x) (wipeE env own) = some (e x)) (he : ∀ x ∈ xs, Ev (elt (e x)) s1 (.d (en (g x))) s1) (hn : s1.length = n) (ha : s1 ++ [cL en (xs.map g)] = s2) :
    Ev (lcM true src own tg noCond elt env) st (.r n) s2 := by
  subst hn ha
  exact E_lcc0 hs hl hb he
theorem E_lccSE {α β σ : Type} {en : β → DV} {src : M (List Val)} {own : List Nat} {tg : Val → Env → Option Env} {elt : Env → M Val} {env : Env} {st s2 : Store} {n : Nat} {S : σ → Store} {s : σ} {f : α → Val} {e : α → Env} {g : α → σ → β × σ} {ok : α → σ → Prop} {xs : List α} (hs : Ev src st (xs.map f) (S s)) (hl : xs.length ≤ lim) (hb : ∀ x, tg (f x) (wipeE env own) = some (e x)) (he : ∀ x ∈ xs, ∀ s, ok x s → Ev (elt (e x)) (S s) (.d (en (g x s).1)) (S (g x s).2)) (hok : okS g ok xs s) (hn : (S (mapS g xs s).2).length = n) (ha : S (mapS g xs s).2 ++ [cL en (mapS g xs s).1] = s2) :
    Ev (lcM true src own tg noCond elt env) st (.r n) s2 := by
  subst hn ha
  exact E_lccS hs hl hb he hok
theorem E_meAC {α : Type} {en : α → DV} {G : Glob} {call : Key2 → List Val → M Val} {o : M Val} {es : List (M Val)} {st s1 s2 s3 : Store} {m : Nat} {x : α} {xs : List α} (ho : Ev o st (.r m) s1) (hi : s1[m]? = some (cL en xs)) (hs : Ev (lsM es) s1 [.d (en x)] s2) (hm : s2[m]? = some (cL en xs)) (hl : xs.length < lim) (h3 : s2.set m (cL en (xs ++ [x])) = s3) : Ev (meM G call o "append" es) st (.d .non) s3 :=
  E_meA ho (ins_C hi) hs hm (by simpa using hl) (by rw [cL_snoc]; exact h3)
theorem bin_mulR {i j : Int} (h : j.natAbs < 2 ^ 64) : bin .Mult (.d (.int i)) (.d (.int j)) = some (.d (.int (i * j))) := bin_mul (by unfold MulOkB; rw [decide_eq_true h]; simp)
theorem isi_C {α : Type} {e : α → DV} {xs : List α} {st : Store} {m : Nat} {t : String} {b : Bool} (h : st[m]? = some (cL e xs)) (hb : biIsi (.d (.lst [])) [.ty t] [] = some (.d (.bl b))) : f2 (fun x y => biIsi x [y]) [.r m, .ty t] st = some (.d (.bl b)) := by
  show biIsi (.r m) [.ty t] st = _
  have e1 : tyOf (.r m) st = some "list" := by
    unfold tyOf
    simp only [h, cL]
  unfold biIsi at *
  rw [e1]
  exact hb
theorem all_lowP {st L : Store} (h : ∀ n, L.all (Cell.low n) = true) (hc : Closed st) : Closed (st ++ L) := hc.app (h _)
/-! ### the box of draws -/
structure GBox where
  cells : List Int
  cnt : Int
  left : Int
  nxt : Int
  nxt0 : 0 ≤ nxt
  small : cells.length ≤ 1000
def bxc (cs : List Int) (c l x : Int) : Cell := .lst [.d (eL DV.int cs), .d (.int c), .d (.int l), .d (.int x)]
def bx (b : GBox) : Cell := bxc b.cells b.cnt b.left b.nxt
theorem low_bx (b : GBox) (n : Nat) : (bx b).low n = true := rfl
theorem closed_bx {b b' : GBox} {r : Store} (h : Closed (bx b :: r)) : Closed (bx b' :: r) := h
theorem closedB {r L : Store} (hc : ∀ b : GBox, Closed (bx b :: r)) (h : L.all (Cell.low (r.length + 1 + L.length)) = true) (b : GBox) : Closed (bx b :: (r ++ L)) := by
  have := (hc b).app (L := L) (by
    rw [show (bx b :: r ++ L).length = r.length + 1 + L.length by simp; omega]
    exact h)
  exact this
def scanV (cs : List Int) : Nat → Int × Int → Int × Int
  | 0, s => s
  | n + 1, s => if s.1 > 0 ∨ s.2 ≥ cs.length then s else scanV cs n (if absI (ix cs s.2) ≥ 10 ^ 18 then absI (ix cs s.2) else s.1, s.2 + 1)
theorem scanV_pos (cs : List Int) : ∀ (n : Nat) (s : Int × Int), 0 ≤ s.2 → 0 ≤ (scanV cs n s).2
  | 0, s, h => h
  | n + 1, s, h => by
    unfold scanV
    split
    · exact h
    · exact scanV_pos cs n _ (by show 0 ≤ s.2 + 1; omega)
def mixV (cell cnt : Int) : Int :=
  let m1 := (cell * 48271 + cnt * 69621 + 13) % 2147483647
  let m2 := (m1 * m1 + cnt * 30011 + 7) % 2147483629
  (m2 * 16807 + cell / 7 + 5) % 998244353
def cellV (cs : List Int) (cnt : Int) : Int := if (cs.length : Int) > 0 then absI (ix cs (cnt % (cs.length : Int))) else 0
def drawV (b : GBox) (lim : Int) : Int × GBox :=
  let s := scanV b.cells b.cells.length (b.left, b.nxt)
  if s.1 > 0 then (s.1 % lim, ⟨b.cells, b.cnt + 1, s.1 / lim, s.2, scanV_pos _ _ _ b.nxt0, b.small⟩)
  else (mixV (cellV b.cells (b.cnt + 1)) (b.cnt + 1) / 5 % lim, ⟨b.cells, b.cnt + 1, s.1, s.2, scanV_pos _ _ _ b.nxt0, b.small⟩)
def okLim (l : Int) : Prop := 0 < l ∧ l.natAbs.log2 < 9000
theorem okLim_lit {l : Int} (h : 0 < l) (h2 : l.natAbs.log2 < 9000) : okLim l := ⟨h, h2⟩
theorem drawV_range (b : GBox) {l : Int} (h : 0 < l) : 0 ≤ (drawV b l).1 ∧ (drawV b l).1 < l := by
  unfold drawV
  dsimp only
  split <;> exact ⟨Int.emod_nonneg _ (by omega), Int.emod_lt_of_pos _ h⟩
def bDraw (call : Key2 → List Val → M Val) : SM := (blS [(asgS 2 (fun e => (subM (vr 0 e) (pure (.d (.int 0)))))), (asgI (fun e => (vr 0 e)) (fun e => (pure (.d (.int 1)))) (fun e => (binM .Add (subM (vr 0 e) (pure (.d (.int 1)))) (pure (.d (.int 1)))))), (forS (fun e => (rngM [(leM call (vr 2 e))])) (tg1 3) (blS [(ifS (fun e => (boT .Or [(cmpT .Gt (subM (vr 0 e) (pure (.d (.int 2)))) (pure (.d (.int 0)))), (cmpT .GtE (subM (vr 0 e) (pure (.d (.int 3)))) (leM call (vr 2 e)))])) (blS [brkS]) (blS [])), (ifS (fun e => (cmpT .GtE (biM (f1 biAbs) [(subM (vr 2 e) (subM (vr 0 e) (pure (.d (.int 3)))))]) (binM .Pow (pure (.d (.int 10))) (pure (.d (.int 18)))))) (blS [(asgI (fun e => (vr 0 e)) (fun e => (pure (.d (.int 2)))) (fun e => (biM (f1 biAbs) [(subM (vr 2 e) (subM (vr 0 e) (pure (.d (.int 3)))))])))]) (blS [])), (asgI (fun e => (vr 0 e)) (fun e => (pure (.d (.int 3)))) (fun e => (binM .Add (subM (vr 0 e) (pure (.d (.int 3)))) (pure (.d (.int 1))))))])), (ifS (fun e => (cmpT .Gt (subM (vr 0 e) (pure (.d (.int 2)))) (pure (.d (.int 0))))) (blS [(asgS 6 (fun e => (binM .Mod (biM (f1 biInt) [(subM (vr 0 e) (pure (.d (.int 2))))]) (vr 1 e)))), (asgI (fun e => (vr 0 e)) (fun e => (pure (.d (.int 2)))) (fun e => (binM .FloorDiv (subM (vr 0 e) (pure (.d (.int 2)))) (vr 1 e)))), (retS (fun e => (vr 6 e)))]) (blS [])), (asgS 4 (fun e => (pure (.d (.int 0))))), (ifS (fun e => (cmpT .Gt (leM call (vr 2 e)) (pure (.d (.int 0))))) (blS [(asgS 4 (fun e => (biM (f1 biAbs) [(subM (vr 2 e) (binM .Mod (biM (f1 biInt) [(subM (vr 0 e) (pure (.d (.int 1))))]) (leM call (vr 2 e))))])))]) (blS [])), (asgS 5 (fun e => (binM .Mod (biM (f1 biInt) [(binM .Add (binM .Add (binM .Mult (vr 4 e) (pure (.d (.int 48271)))) (binM .Mult (subM (vr 0 e) (pure (.d (.int 1)))) (pure (.d (.int 69621))))) (pure (.d (.int 13))))]) (pure (.d (.int 2147483647)))))), (asgS 5 (fun e => (binM .Mod (biM (f1 biInt) [(binM .Add (binM .Add (binM .Mult (vr 5 e) (vr 5 e)) (binM .Mult (subM (vr 0 e) (pure (.d (.int 1)))) (pure (.d (.int 30011))))) (pure (.d (.int 7))))]) (pure (.d (.int 2147483629)))))), (asgS 5 (fun e => (binM .Mod (biM (f1 biInt) [(binM .Add (binM .Add (binM .Mult (vr 5 e) (pure (.d (.int 16807)))) (binM .FloorDiv (vr 4 e) (pure (.d (.int 7))))) (pure (.d (.int 5))))]) (pure (.d (.int 998244353)))))), (retS (fun e => (binM .Mod (biM (f1 biInt) [(binM .FloorDiv (vr 5 e) (pure (.d (.int 5))))]) (vr 1 e))))])
def bSame (call : Key2 → List Val → M Val) : SM := (blS [(ifS (fun e => (cmpT .Is (vr 1 e) (pure (.d .non)))) (blS [(retS (fun e => (cmpM .Is (vr 0 e) (pure (.d .non)))))]) (blS [])), (ifS (fun e => (trT (biM (f2 fun x y => biIsi x [y]) [(vr 1 e), (pure (.ty "bool"))]))) (blS [(retS (fun e => (boM .And [(biM (f2 fun x y => biIsi x [y]) [(vr 0 e), (pure (.ty "bool"))]), (cmpM .Eq (vr 0 e) (vr 1 e))])))]) (blS [])), (ifS (fun e => (trT (biM (f2 fun x y => biIsi x [y]) [(vr 1 e), (pure (.ty "int"))]))) (blS [(retS (fun e => (boM .And [(biM (f2 fun x y => biIsi x [y]) [(vr 0 e), (pure (.ty "int"))]), (unM .Not (biM (f2 fun x y => biIsi x [y]) [(vr 0 e), (pure (.ty "bool"))])), (cmpM .Eq (vr 0 e) (vr 1 e))])))]) (blS [])), (ifS (fun e => (trT (biM (f2 fun x y => biIsi x [y]) [(vr 1 e), (pure (.ty "str"))]))) (blS [(retS (fun e => (boM .And [(biM (f2 fun x y => biIsi x [y]) [(vr 0 e), (pure (.ty "str"))]), (cmpM .Eq (vr 0 e) (vr 1 e))])))]) (blS [])), (ifS (fun e => (boT .And [(trT (biM (f2 fun x y => biIsi x [y]) [(vr 1 e), (pure (.ty "tuple"))])), (notT (trT (biM (f2 fun x y => biIsi x [y]) [(vr 0 e), (pure (.ty "tuple"))])))])) (blS [(retS (fun e => (pure (.d (.bl false)))))]) (blS [])), (ifS (fun e => (boT .And [(trT (biM (f2 fun x y => biIsi x [y]) [(vr 1 e), (pure (.ty "list"))])), (notT (trT (biM (f2 fun x y => biIsi x [y]) [(vr 0 e), (pure (.ty "list"))])))])) (blS [(retS (fun e => (pure (.d (.bl false)))))]) (blS [])), (ifS (fun e => (cmpT .NotEq (leM call (vr 0 e)) (leM call (vr 1 e)))) (blS [(retS (fun e => (pure (.d (.bl false)))))]) (blS [])), (retS (fun e => (cmpM .NotIn (pure (.d (.bl false))) (lcM false (rngM [(leM call (vr 1 e))]) [2] (tg1 2) noCond (fun e => (caM (call ("_law_same", none)) [(subM (vr 0 e) (vr 2 e)), (subM (vr 1 e) (vr 2 e))])) e))))])
def bBox (call : Key2 → List Val → M Val) : SM := (blS [(retS (fun e => (liM true [(lcM false (genM (vr 0 e)) [1] (tg1 1) noCond (fun e => (biM (f1 biInt) [(vr 1 e)])) e), (pure (.d (.int 0))), (pure (.d (.int 0))), (pure (.d (.int 0)))])))])
end IP

set_option maxHeartbeats 4000000
/-! IPT5: a draw, the law's comparison, the box. -/
namespace IP
open PySem L2
theorem ifS_t {c : Env → M Bool} {A B ss : List SM} {env : Env} {st s1 : Store} (hc : Ev (c env) st true s1) : blS (ifS c (blS A) (blS B) :: ss) env st = blS (A ++ ss) env s1 := (ifS_bl hc).trans (if_pos rfl)
theorem ifS_f {c : Env → M Bool} {A B ss : List SM} {env : Env} {st s1 : Store} (hc : Ev (c env) st false s1) : blS (ifS c (blS A) (blS B) :: ss) env st = blS (B ++ ss) env s1 := (ifS_bl hc).trans (if_neg (by simp))
def drawW (b : GBox) (l : Int) (s : Int × Int) : Int × Int × Int :=
  if s.1 > 0 then (s.1 % l, s.1 / l, s.2) else (mixV (cellV b.cells (b.cnt + 1)) (b.cnt + 1) / 5 % l, s.1, s.2)
def scanStp (cs : List Int) (s : Int × Int) (_ : Int) : LO (Int × Int) (Int × Int × Int) := if (decide (s.1 > 0) || decide (s.2 ≥ (cs.length : Int))) then .br s else .nx (if decide (absI (ix cs s.2) ≥ 10 ^ 18) then absI (ix cs s.2) else s.1, s.2 + 1)
theorem scan_forO (cs : List Int) : ∀ (xs : List Int) (s : Int × Int), forO (scanStp cs) s xs = .nx (scanV cs xs.length s)
  | [], s => rfl
  | x :: xs, s => by
    rw [List.length_cons, forO, scanV]
    have es : scanStp cs s x = if (decide (s.1 > 0) || decide (s.2 ≥ (cs.length : Int))) then .br s else .nx (if decide (absI (ix cs s.2) ≥ 10 ^ 18) then absI (ix cs s.2) else s.1, s.2 + 1) := rfl
    rw [es]
    by_cases h : s.1 > 0 ∨ s.2 ≥ cs.length
    · rw [if_pos (by simpa using h), if_pos h]
    · rw [if_neg (by simpa using h), if_neg h]
      dsimp only
      rw [scan_forO cs xs]
      simp only [decide_eq_true_eq]
theorem scan_ok (cs : List Int) : ∀ (xs : List Int) (s : Int × Int), 0 ≤ s.2 → okForO (fun s _ => 0 ≤ s.2) (scanStp cs) s xs
  | [], s, h => trivial
  | x :: xs, s, h => by
    refine ⟨h, ?_⟩
    unfold scanStp
    by_cases q : (decide (s.1 > 0) || decide (s.2 ≥ (cs.length : Int))) = true
    · rw [if_pos q]
      trivial
    · rw [if_neg q]
      exact scan_ok cs xs _ (by show 0 ≤ s.2 + 1; omega)
theorem divOk {l : Int} (h : okLim l) : DivOkB l = true := by
  unfold DivOkB
  rw [decide_eq_true h.1, decide_eq_true h.2]
  rfl
theorem inR_mod {n : Nat} {i : Int} (h : 0 < n) : inR n (i % (n : Int)) := ⟨by have := Int.emod_nonneg i (show (n : Int) ≠ 0 by omega); omega, Int.emod_lt_of_pos _ (by omega)⟩
theorem mod_abs {i m : Int} (h : 0 < m) (hm : m < 2 ^ 63) : (i % m).natAbs < 2 ^ 64 := by
  have := Int.emod_nonneg i (show m ≠ 0 by omega)
  have := Int.emod_lt_of_pos i h
  omega
abbrev rvD (b : GBox) (r : Store) : Int × Int × Int → Val × Store := fun w => (.d (.int w.1), bxc b.cells (b.cnt + 1) w.2.1 w.2.2 :: r)
theorem draw_tail {call : Key2 → List Val → M Val} (b : GBox) (l : Int) (hl : okLim l) (r : Store) (s : Int × Int) (j : Option Val) :
    RetS (rvD b r) (blS [(ifS (fun e => (cmpT .Gt (subM (vr 0 e) (pure (.d (.int 2)))) (pure (.d (.int 0))))) (blS [(asgS 6 (fun e => (binM .Mod (biM (f1 biInt) [(subM (vr 0 e) (pure (.d (.int 2))))]) (vr 1 e)))), (asgI (fun e => (vr 0 e)) (fun e => (pure (.d (.int 2)))) (fun e => (binM .FloorDiv (subM (vr 0 e) (pure (.d (.int 2)))) (vr 1 e)))), (retS (fun e => (vr 6 e)))]) (blS [])), (asgS 4 (fun e => (pure (.d (.int 0))))), (ifS (fun e => (cmpT .Gt (leM call (vr 2 e)) (pure (.d (.int 0))))) (blS [(asgS 4 (fun e => (biM (f1 biAbs) [(subM (vr 2 e) (binM .Mod (biM (f1 biInt) [(subM (vr 0 e) (pure (.d (.int 1))))]) (leM call (vr 2 e))))])))]) (blS [])), (asgS 5 (fun e => (binM .Mod (biM (f1 biInt) [(binM .Add (binM .Add (binM .Mult (vr 4 e) (pure (.d (.int 48271)))) (binM .Mult (subM (vr 0 e) (pure (.d (.int 1)))) (pure (.d (.int 69621))))) (pure (.d (.int 13))))]) (pure (.d (.int 2147483647)))))), (asgS 5 (fun e => (binM .Mod (biM (f1 biInt) [(binM .Add (binM .Add (binM .Mult (vr 5 e) (vr 5 e)) (binM .Mult (subM (vr 0 e) (pure (.d (.int 1)))) (pure (.d (.int 30011))))) (pure (.d (.int 7))))]) (pure (.d (.int 2147483629)))))), (asgS 5 (fun e => (binM .Mod (biM (f1 biInt) [(binM .Add (binM .Add (binM .Mult (vr 5 e) (pure (.d (.int 16807)))) (binM .FloorDiv (vr 4 e) (pure (.d (.int 7))))) (pure (.d (.int 5))))]) (pure (.d (.int 998244353)))))), (retS (fun e => (binM .Mod (biM (f1 biInt) [(binM .FloorDiv (vr 5 e) (pure (.d (.int 5))))]) (vr 1 e))))]
      [some (.r 0), some (.d (.int l)), some (.d (eL DV.int b.cells)), j, none, none, none] (bxc b.cells (b.cnt + 1) s.1 s.2 :: r)) (drawW b l s) := by
  have e0 : drawW b l s = if decide (s.1 > 0) then (s.1 % l, s.1 / l, s.2) else (mixV (cellV b.cells (b.cnt + 1)) (b.cnt + 1) / 5 % l, s.1, s.2) := by
    unfold drawW
    simp only [decide_eq_true_eq]
  rw [e0]
  refine S_if (T_cmp (E_sub (E_vr rfl) E_pu (show item (.r 0) (.d (.int 2)) _ = some (.d (.int s.1)) from rfl)) E_pu rfl) (fun h => ?_) fun h => ?_
  · refine S_asgv (env' := [some (Val.r 0), some (Val.d (.int l)), some (.d (eL DV.int b.cells)), j, none, none, some (.d (.int (s.1 % l)))]) (E_bin (E_bi (L_cons (E_sub (E_vr rfl) E_pu (show item (.r 0) (.d (.int 2)) _ = some (.d (.int s.1)) from rfl)) L_nil) int_i) (E_vr rfl) (bin_mod hl.1)) rfl ?_
    refine S_asgI (s4 := bxc b.cells (b.cnt + 1) (s.1 / l) s.2 :: r) (E_bin (E_sub (E_vr rfl) E_pu (show item (.r 0) (.d (.int 2)) _ = some (.d (.int s.1)) from rfl)) (E_vr rfl) (bin_div (divOk hl))) (E_vr rfl) E_pu rfl rfl rfl ?_
    exact Q_ret0 (E_vr rfl)
  · refine S_asgv (env' := [some (Val.r 0), some (Val.d (.int l)), some (.d (eL DV.int b.cells)), j, some (.d (.int 0)), none, none]) E_pu rfl ?_
    have hcell : ∀ (Q : SR → Int × Int × Int → Prop) ss w, (Q (blS ss [some (.r 0), some (.d (.int l)), some (.d (eL DV.int b.cells)), j, some (.d (.int (cellV b.cells (b.cnt + 1)))), none, none] (bxc b.cells (b.cnt + 1) s.1 s.2 :: r)) w) → Q (blS (ifS (fun e => (cmpT .Gt (leM call (vr 2 e)) (pure (.d (.int 0))))) (blS [(asgS 4 (fun e => (biM (f1 biAbs) [(subM (vr 2 e) (binM .Mod (biM (f1 biInt) [(subM (vr 0 e) (pure (.d (.int 1))))]) (leM call (vr 2 e))))])))]) (blS []) :: ss) [some (.r 0), some (.d (.int l)), some (.d (eL DV.int b.cells)), j, some (.d (.int 0)), none, none] (bxc b.cells (b.cnt + 1) s.1 s.2 :: r)) w := by
      intro Q ss w hQ
      rw [ifS_bl (T_cmp (E_len (E_vr rfl) rfl len_L) E_pu rfl)]
      by_cases hp : (b.cells.length : Int) > 0
      · rw [if_pos (by simpa using hp)]
        have e1 : cellV b.cells (b.cnt + 1) = absI (ix b.cells ((b.cnt + 1) % (b.cells.length : Int))) := by
          unfold cellV
          rw [if_pos hp]
        rw [e1] at hQ
        refine S_asgv (E_bi (L_cons (E_sub (E_vr rfl) (E_bin (E_bi (L_cons (E_sub (E_vr rfl) E_pu (show item (.r 0) (.d (.int 1)) _ = some (.d (.int (b.cnt + 1))) from rfl)) L_nil) int_i) (E_len (E_vr rfl) rfl len_L) (bin_mod hp)) (item_L (inR_mod (by omega)))) L_nil) abs_i) rfl hQ
      · rw [if_neg (by simpa using hp)]
        have e1 : cellV b.cells (b.cnt + 1) = 0 := by
          unfold cellV
          rw [if_neg hp]
        rw [e1] at hQ
        exact hQ
    refine hcell _ _ _ ?_
    generalize cellV b.cells (b.cnt + 1) = cell
    refine S_asgv (env' := [some (Val.r 0), some (Val.d (.int l)), some (.d (eL DV.int b.cells)), j, some (.d (.int cell)), some (.d (.int ((cell * 48271 + (b.cnt + 1) * 69621 + 13) % 2147483647))), none]) (E_bin (E_bi (L_cons (E_bin (E_bin (E_bin (E_vr rfl) E_pu (bin_mulR (by decide))) (E_bin (E_sub (E_vr rfl) E_pu (show item (.r 0) (.d (.int 1)) _ = some (.d (.int (b.cnt + 1))) from rfl)) E_pu (bin_mulR (by decide))) rfl) E_pu rfl) L_nil) int_i) E_pu (bin_mod (by decide))) rfl ?_
    have hm1 := mod_abs (i := cell * 48271 + (b.cnt + 1) * 69621 + 13) (m := 2147483647) (by decide) (by decide)
    unfold mixV
    generalize (cell * 48271 + (b.cnt + 1) * 69621 + 13) % 2147483647 = m1 at hm1 ⊢
    refine S_asgv (env' := [some (Val.r 0), some (Val.d (.int l)), some (.d (eL DV.int b.cells)), j, some (.d (.int cell)), some (.d (.int ((m1 * m1 + (b.cnt + 1) * 30011 + 7) % 2147483629))), none]) (E_bin (E_bi (L_cons (E_bin (E_bin (E_bin (E_vr rfl) (E_vr rfl) (bin_mulR hm1)) (E_bin (E_sub (E_vr rfl) E_pu (show item (.r 0) (.d (.int 1)) _ = some (.d (.int (b.cnt + 1))) from rfl)) E_pu (bin_mulR (by decide))) rfl) E_pu rfl) L_nil) int_i) E_pu (bin_mod (by decide))) rfl ?_
    dsimp only
    generalize (m1 * m1 + (b.cnt + 1) * 30011 + 7) % 2147483629 = m2
    refine S_asgv (env' := [some (Val.r 0), some (Val.d (.int l)), some (.d (eL DV.int b.cells)), j, some (.d (.int cell)), some (.d (.int ((m2 * 16807 + cell / 7 + 5) % 998244353))), none]) (E_bin (E_bi (L_cons (E_bin (E_bin (E_bin (E_vr rfl) E_pu (bin_mulR (by decide))) (E_bin (E_vr rfl) E_pu (bin_div (by decide))) rfl) E_pu rfl) L_nil) int_i) E_pu (bin_mod (by decide))) rfl ?_
    exact Q_ret0 (E_bin (E_bi (L_cons (E_bin (E_vr rfl) E_pu (bin_div (by decide))) L_nil) int_i) (E_vr rfl) (bin_mod hl.1))
theorem draw_body (call : Key2 → List Val → M Val) (b : GBox) (l : Int) (hl : okLim l) (r : Store) : RetS (fun w : Int × GBox => (.d (.int w.1), bx w.2 :: r)) (bDraw call [some (.r 0), some (.d (.int l)), none, none, none, none, none] (bx b :: r)) (drawV b l) := by
  have key : RetS (rvD b r) (bDraw call [some (.r 0), some (.d (.int l)), none, none, none, none, none] (bx b :: r)) (drawW b l (scanV b.cells b.cells.length (b.left, b.nxt))) := by
    unfold bDraw
    refine S_asgv (env' := [some (Val.r 0), some (Val.d (.int l)), some (.d (eL DV.int b.cells)), none, none, none, none]) (E_sub (E_vr rfl) E_pu rfl) rfl ?_
    refine S_asgI (s4 := bxc b.cells (b.cnt + 1) b.left b.nxt :: r) (E_bin (E_sub (E_vr rfl) E_pu (show item (.r 0) (.d (.int 1)) (bx b :: r) = some (.d (.int b.cnt)) from rfl)) E_pu rfl) (E_vr rfl) E_pu rfl rfl rfl ?_
    have hfo := scan_forO b.cells (irange 0 b.cells.length) (b.left, b.nxt)
    have hlen : (irange 0 (b.cells.length : Int)).length = b.cells.length := by simp [irange]
    rw [hlen] at hfo
    have : drawW b l (scanV b.cells b.cells.length (b.left, b.nxt)) = (forO (scanStp b.cells) (b.left, b.nxt) (irange 0 b.cells.length)).fin (drawW b l) := by
      rw [hfo]
      rfl
    rw [this]
    refine S_forO (J := Option Val) (E := fun (s : Int × Int) (j : Option Val) => [some (.r 0), some (.d (.int l)), some (.d (eL DV.int b.cells)), j, none, none, none]) (S := fun s : Int × Int => bxc b.cells (b.cnt + 1) s.1 s.2 :: r) (f := fun i : Int => Val.d (.int i)) (ok := fun s _ => 0 ≤ s.2) (okR := fun _ => True) none (W_rng1 (E_len (E_vr rfl) rfl len_L) ?_) rfl (scan_ok _ _ _ b.nxt0) ?_ ?_ ?_
    · have := b.small
      unfold small62
      simp only [Bool.and_eq_true, decide_eq_true_eq]
      omega
    · intro s x j hk
      refine ⟨[some (.r 0), some (.d (.int l)), some (.d (eL DV.int b.cells)), some (.d (.int x)), none, none, none], rfl, ?_⟩
      unfold scanStp
      refine S_if (T_or (T_cmp (E_sub (E_vr rfl) E_pu (show item (.r 0) (.d (.int 2)) _ = some (.d (.int s.1)) from rfl)) E_pu rfl) (fun _ => rfl) (fun _ => T_bo1 (T_cmp (E_sub (E_vr rfl) E_pu (show item (.r 0) (.d (.int 3)) _ = some (.d (.int s.2)) from rfl)) (E_len (E_vr rfl) rfl len_L) rfl))) (fun h => ?_) fun h => ?_
      · exact Q_brk (some (Val.d (.int x))) rfl rfl
      · have h2 : s.2 < (b.cells.length : Int) := by
          simp only [Bool.or_eq_false_iff, decide_eq_false_iff_not] at h
          omega
        have hin : inR b.cells.length s.2 := ⟨by omega, h2⟩
        have habs : ∀ st : Store, st = bxc b.cells (b.cnt + 1) s.1 s.2 :: r → Ev (biM (f1 biAbs) [(subM (vr 2 [some (.r 0), some (.d (.int l)), some (.d (eL DV.int b.cells)), some (.d (.int x)), none, none, none]) (subM (vr 0 [some (.r 0), some (.d (.int l)), some (.d (eL DV.int b.cells)), some (.d (.int x)), none, none, none]) (pure (.d (.int 3)))))]) st (.d (.int (absI (ix b.cells s.2)))) st := by
          rintro _ rfl
          exact E_bi (L_cons (E_sub (E_vr rfl) (E_sub (E_vr rfl) E_pu (show item (.r 0) (.d (.int 3)) _ = some (.d (.int s.2)) from rfl)) (item_L hin)) L_nil) abs_i
        show OutQ _ _ _ (blS (ifS _ (blS [_]) (blS []) :: [_]) _ _) _
        rw [ifS_bl (T_cmp (habs _ rfl) (E_bin E_pu E_pu (bin_pow (by decide))) rfl)]
        by_cases q : decide (absI (ix b.cells s.2) ≥ 10 ^ (18 : Int).toNat) = true
        · have q' : decide (absI (ix b.cells s.2) ≥ 10 ^ 18) = true := q
          rw [if_pos q, if_pos q']
          refine S_asgI (s4 := bxc b.cells (b.cnt + 1) (absI (ix b.cells s.2)) s.2 :: r) (habs _ rfl) (E_vr rfl) E_pu rfl rfl rfl ?_
          refine S_asgI (s4 := bxc b.cells (b.cnt + 1) (absI (ix b.cells s.2)) (s.2 + 1) :: r) (E_bin (E_sub (E_vr rfl) E_pu (show item (.r 0) (.d (.int 3)) _ = some (.d (.int s.2)) from rfl)) E_pu rfl) (E_vr rfl) E_pu rfl rfl rfl ?_
          exact Q_nx (some (Val.d (.int x))) rfl rfl
        · have q' : ¬ decide (absI (ix b.cells s.2) ≥ 10 ^ 18) = true := q
          rw [if_neg q, if_neg q']
          refine S_asgI (s4 := bxc b.cells (b.cnt + 1) s.1 (s.2 + 1) :: r) (E_bin (E_sub (E_vr rfl) E_pu (show item (.r 0) (.d (.int 3)) _ = some (.d (.int s.2)) from rfl)) E_pu rfl) (E_vr rfl) E_pu rfl rfl rfl ?_
          exact Q_nx (some (Val.d (.int x))) rfl rfl
    · rw [hfo]
      trivial
    · intro s j _
      exact draw_tail b l hl r s j
  have e2 : (rvD b r) (drawW b l (scanV b.cells b.cells.length (b.left, b.nxt))) = (.d (.int (drawV b l).1), bx (drawV b l).2 :: r) := by
    unfold drawW drawV
    dsimp only
    split <;> rfl
  unfold RetS at *
  rw [e2] at key
  exact key

instance : Inhabited DV := ⟨.non⟩
/-- data that the law compares: nested at most n deep, lists of a bounded length -/
def gd : Nat → DV → Prop
  | _, .non => True
  | _, .bl _ => True
  | _, .int _ => True
  | _, .str x => PyData.strOk x = true
  | n + 1, .tup xs => xs.length ≤ lim ∧ ∀ x ∈ xs, gd n x
  | n + 1, .lst xs => xs.length ≤ lim ∧ ∀ x ∈ xs, gd n x
  | 0, .tup _ => False
  | 0, .lst _ => False
  | _, .obj _ _ _ => False
def okSame (x y : DV) : Prop := x = y ∧ gd 6 y
theorem gd_int (n : Nat) (i : Int) : gd n (.int i) := by cases n <;> trivial
theorem gd_bl (n : Nat) (i : Bool) : gd n (.bl i) := by cases n <;> trivial
theorem gd_non (n : Nat) : gd n .non := by cases n <;> trivial
theorem gd_T {α : Type} {n : Nat} {e : α → DV} {xs : List α} (hl : xs.length ≤ lim) (h : ∀ x ∈ xs, gd n (e x)) : gd (n + 1) (eT e xs) := by
  refine ⟨by simpa using hl, fun y hy => ?_⟩
  obtain ⟨x, hx, rfl⟩ := List.mem_map.mp hy
  exact h x hx
theorem gd_L {α : Type} {n : Nat} {e : α → DV} {xs : List α} (hl : xs.length ≤ lim) (h : ∀ x ∈ xs, gd n (e x)) : gd (n + 1) (eL e xs) := by
  refine ⟨by simpa using hl, fun y hy => ?_⟩
  obtain ⟨x, hx, rfl⟩ := List.mem_map.mp hy
  exact h x hx
theorem gd_P {α β : Type} {n : Nat} {e : α → DV} {f : β → DV} {p : α × β} (h : gd n (e p.1)) (h2 : gd n (f p.2)) : gd (n + 1) (eP e f p) := by
  refine ⟨by show 2 ≤ lim; decide, fun y hy => ?_⟩
  simp only [List.mem_cons, List.not_mem_nil, or_false] at hy
  rcases hy with rfl | rfl
  · exact h
  · exact h2
theorem irange_mem {lo hi i : Int} (h : i ∈ irange lo hi) : lo ≤ i ∧ i < hi := by
  unfold irange at h
  obtain ⟨n, hn, rfl⟩ := List.mem_map.mp h
  have := List.mem_range.mp hn
  omega
theorem irange_len {lo hi : Int} : (irange lo hi).length = (hi - lo).toNat := by simp [irange]
theorem ix_mem {α : Type} [Inhabited α] {xs : List α} {i : Int} (h : inR xs.length i) : ix xs i ∈ xs := by
  have h2 := atI_in h
  unfold atI at h2
  cases h3 : ixN xs.length i with
  | none => rw [h3] at h2; cases h2
  | some j =>
    rw [h3] at h2
    exact List.mem_of_getElem? h2
theorem item_t {xs : List DV} {i : Int} {st : Store} (h : inR xs.length i) : item (.d (.tup xs)) (.d (.int i)) st = some (.d (ix xs i)) := by
  show (match atI xs i with
    | some v => some (Val.d v)
    | none => none) = _
  rw [atI_in h]
theorem item_l {xs : List DV} {i : Int} {st : Store} (h : inR xs.length i) : item (.d (.lst xs)) (.d (.int i)) st = some (.d (ix xs i)) := by
  show (match atI xs i with
    | some v => some (Val.d v)
    | none => none) = _
  rw [atI_in h]
theorem cmp_strs (x : Str) (h : PyData.strOk x = true) (st : Store) : cmp .Eq (.d (.str x)) (.d (.str x)) st = some true := by
  have e : pyOf (.d (.str x)) st = some (.str x) := by
    unfold pyOf
    simp only [DV.py]
    rw [if_pos (by simp [SeqAt.shaped, PyData.canLay0, PyData.depth, h])]
  show cmpD .Eq _ _ st = _
  unfold cmpD
  simp only [e]
  simp [PyData.eqv]
section
variable {call : Key2 → List Val → M Val} {n : Nat} {st : Store}
abbrev rvT (st : Store) : Unit → Val × Store := fun _ => (.d (.bl true), st)
theorem same_seq {x : DV} {xs : List DV} (hx : x = .tup xs ∨ x = .lst xs) (hl : xs.length ≤ lim) (hg : ∀ y ∈ xs, gd n y) (hcall : ∀ x, gd n x → call ("_law_same", none) [.d x, .d x] st = .ok (.d (.bl true)) st) :
    RetS (rvT st) (blS [(ifS (fun e => (cmpT .NotEq (leM call (vr 0 e)) (leM call (vr 1 e)))) (blS [(retS (fun e => (pure (.d (.bl false)))))]) (blS [])), (retS (fun e => (cmpM .NotIn (pure (.d (.bl false))) (lcM false (rngM [(leM call (vr 1 e))]) [2] (tg1 2) noCond (fun e => (caM (call ("_law_same", none)) [(subM (vr 0 e) (vr 2 e)), (subM (vr 1 e) (vr 2 e))])) e))))] [some (.d x), some (.d x), none] st) () := by
  have hlen : biLen (.d x) st = some (.d (.int xs.length)) := by
    rcases hx with rfl | rfl
    · show some (Val.d (.int (xs.map Val.d).length)) = _
      simp
    · show some (Val.d (.int (xs.map Val.d).length)) = _
      simp
  have hins : insOf (.d x) st = none := by rcases hx with rfl | rfl <;> rfl
  have hit : ∀ i, inR xs.length i → item (.d x) (.d (.int i)) st = some (.d (ix xs i)) := by
    rcases hx with rfl | rfl
    · exact fun i h => item_t h
    · exact fun i h => item_l h
  rw [ifS_bl (T_cmp (E_len (E_vr rfl) hins hlen) (E_len (E_vr rfl) hins hlen) rfl), if_neg (by simp)]
  have h62 : small62 (xs.length : Int) = true := by
    have : lim = 1000000 := rfl
    unfold small62
    simp only [Bool.and_eq_true, decide_eq_true_eq]
    omega
  have hn : (!decide (false ∈ ((irange 0 (xs.length : Int)).map fun _ => true))) = true := by
    simp
  refine Q_ret0 (rv := rvT st) ?_
  have hq : ∀ st, cmp .NotIn (.d (.bl false)) (.d (eL DV.bl ((irange 0 (xs.length : Int)).map fun _ => true))) st = some (!decide (false ∈ ((irange 0 (xs.length : Int)).map fun _ => true))) := fun st => cmp_ninL PyE.bl (by decide)
  have := E_cmp (op := .NotIn) (E_pu (v := .d (.bl false)) (st := st)) (E_lc0 (en := DV.bl) (own := [2]) (tg := tg1 2) (elt := fun e => (caM (call ("_law_same", none)) [(subM (vr 0 e) (vr 2 e)), (subM (vr 1 e) (vr 2 e))])) (env := [some (.d x), some (.d x), none]) (f := fun i : Int => Val.d (.int i)) (e := fun i => [some (.d x), some (.d x), some (.d (.int i))]) (g := fun _ => true) (W_rng1 (E_len (call := call) (E_vr (i := 1) (env := [some (.d x), some (.d x), none]) rfl) hins hlen) h62) (by rw [irange_len]; omega) (fun _ => rfl) fun i hi => by
    have hr : inR xs.length i := by
      have := irange_mem hi
      exact ⟨by omega, by omega⟩
    exact E_ca (L_cons (E_sub (E_vr rfl) (E_vr rfl) (hit i hr)) (L_cons (E_sub (E_vr rfl) (E_vr rfl) (hit i hr)) L_nil)) (hcall _ (hg _ (ix_mem hr)))) (hq _)
  rw [hn] at this
  exact this
theorem same_ok (x : DV) (h : gd n x) (hcall : ∀ m x, n = m + 1 → gd m x → call ("_law_same", none) [.d x, .d x] st = .ok (.d (.bl true)) st) : RetS (rvT st) (bSame call [some (.d x), some (.d x), none] st) () := by
  unfold bSame
  cases x with
  | non =>
    rw [ifS_t (T_cmp (E_vr rfl) E_pu rfl)]
    exact Q_ret0 (E_cmp (E_vr rfl) E_pu rfl)
  | bl b =>
    rw [ifS_f (T_cmp (E_vr rfl) E_pu rfl)]
    show RetS _ (blS [_, _, _, _, _, _, _] _ _) _
    rw [ifS_t (T_tr (E_bi (L_cons (E_vr rfl) (L_cons E_pu L_nil)) rfl) rfl)]
    have := E_and (E_bi (F := f2 fun x y => biIsi x [y]) (L_cons (E_vr (i := 0) (env := [some (.d (.bl b)), some (.d (.bl b)), none]) (st := st) rfl) (L_cons (E_pu (v := Val.ty "bool")) L_nil)) (v := .d (.bl true)) rfl) (fun h => rfl) (fun _ => E_bo1 (E_cmp (op := .Eq) (E_vr (i := 0) (env := [some (.d (.bl b)), some (.d (.bl b)), none]) rfl) (E_vr (i := 1) (env := [some (.d (.bl b)), some (.d (.bl b)), none]) rfl) (cmp_eqE PyE.bl (by decide) rfl)))
    rw [show (true && decide (b = b)) = true by simp] at this
    exact Q_ret0 this
  | int b =>
    rw [ifS_f (T_cmp (E_vr rfl) E_pu rfl)]
    show RetS _ (blS [_, _, _, _, _, _, _] _ _) _
    rw [ifS_f (T_tr (E_bi (L_cons (E_vr rfl) (L_cons E_pu L_nil)) rfl) rfl)]
    show RetS _ (blS [_, _, _, _, _, _] _ _) _
    rw [ifS_t (T_tr (E_bi (L_cons (E_vr rfl) (L_cons E_pu L_nil)) rfl) rfl)]
    have := E_and (E_bi (F := f2 fun x y => biIsi x [y]) (L_cons (E_vr (i := 0) (env := [some (.d (.int b)), some (.d (.int b)), none]) (st := st) rfl) (L_cons (E_pu (v := Val.ty "int")) L_nil)) (v := .d (.bl true)) rfl) (fun h => rfl) (fun _ => E_and (E_un (op := .Not) (E_bi (F := f2 fun x y => biIsi x [y]) (L_cons (E_vr (i := 0) (env := [some (.d (.int b)), some (.d (.int b)), none]) (st := st) rfl) (L_cons (E_pu (v := Val.ty "bool")) L_nil)) (v := .d (.bl false)) rfl) (v := .d (.bl true)) rfl) (fun h => rfl) (fun _ => E_bo1 (E_cmp (op := .Eq) (E_vr (i := 0) (env := [some (.d (.int b)), some (.d (.int b)), none]) rfl) (E_vr (i := 1) (env := [some (.d (.int b)), some (.d (.int b)), none]) rfl) (cmp_eq b b st))))
    rw [show (true && (true && decide (b = b))) = true by simp] at this
    exact Q_ret0 this
  | str b =>
    have h : PyData.strOk b = true := by cases n <;> simpa [gd] using h
    rw [ifS_f (T_cmp (E_vr rfl) E_pu rfl)]
    show RetS _ (blS [_, _, _, _, _, _, _] _ _) _
    rw [ifS_f (T_tr (E_bi (L_cons (E_vr rfl) (L_cons E_pu L_nil)) rfl) rfl)]
    show RetS _ (blS [_, _, _, _, _, _] _ _) _
    rw [ifS_f (T_tr (E_bi (L_cons (E_vr rfl) (L_cons E_pu L_nil)) rfl) rfl)]
    show RetS _ (blS [_, _, _, _, _] _ _) _
    rw [ifS_t (T_tr (E_bi (L_cons (E_vr rfl) (L_cons E_pu L_nil)) rfl) rfl)]
    have := E_and (E_bi (F := f2 fun x y => biIsi x [y]) (L_cons (E_vr (i := 0) (env := [some (.d (.str b)), some (.d (.str b)), none]) (st := st) rfl) (L_cons (E_pu (v := Val.ty "str")) L_nil)) (v := .d (.bl true)) rfl) (fun h => rfl) (fun _ => E_bo1 (E_cmp (op := .Eq) (E_vr (i := 0) (env := [some (.d (.str b)), some (.d (.str b)), none]) rfl) (E_vr (i := 1) (env := [some (.d (.str b)), some (.d (.str b)), none]) rfl) (cmp_strs b h st)))
    exact Q_ret0 this
  | tup xs =>
    rw [ifS_f (T_cmp (E_vr rfl) E_pu rfl)]
    show RetS _ (blS [_, _, _, _, _, _, _] _ _) _
    rw [ifS_f (T_tr (E_bi (L_cons (E_vr rfl) (L_cons E_pu L_nil)) rfl) rfl)]
    show RetS _ (blS [_, _, _, _, _, _] _ _) _
    rw [ifS_f (T_tr (E_bi (L_cons (E_vr rfl) (L_cons E_pu L_nil)) rfl) rfl)]
    show RetS _ (blS [_, _, _, _, _] _ _) _
    rw [ifS_f (T_tr (E_bi (L_cons (E_vr rfl) (L_cons E_pu L_nil)) rfl) rfl)]
    show RetS _ (blS [_, _, _, _] _ _) _
    rw [ifS_f (T_and (y := false) (T_tr (E_bi (L_cons (E_vr rfl) (L_cons E_pu L_nil)) rfl) (show tru (.d (.bl true)) st = some true from rfl)) (fun h => rfl) (fun _ => T_bo1 (T_not (T_tr (b := true) (E_bi (L_cons (E_vr rfl) (L_cons E_pu L_nil)) rfl) rfl))))]
    show RetS _ (blS [_, _, _] _ _) _
    rw [ifS_f (T_and (x := false) (y := false) (T_tr (E_bi (L_cons (E_vr rfl) (L_cons E_pu L_nil)) rfl) rfl) (fun h => rfl) (fun h => by cases h))]
    cases n with
    | zero => exact h.elim
    | succ n => exact same_seq (n := n) (.inl rfl) h.1 h.2 fun x hx => hcall n x rfl hx
  | lst xs =>
    rw [ifS_f (T_cmp (E_vr rfl) E_pu rfl)]
    show RetS _ (blS [_, _, _, _, _, _, _] _ _) _
    rw [ifS_f (T_tr (E_bi (L_cons (E_vr rfl) (L_cons E_pu L_nil)) rfl) rfl)]
    show RetS _ (blS [_, _, _, _, _, _] _ _) _
    rw [ifS_f (T_tr (E_bi (L_cons (E_vr rfl) (L_cons E_pu L_nil)) rfl) rfl)]
    show RetS _ (blS [_, _, _, _, _] _ _) _
    rw [ifS_f (T_tr (E_bi (L_cons (E_vr rfl) (L_cons E_pu L_nil)) rfl) rfl)]
    show RetS _ (blS [_, _, _, _] _ _) _
    rw [ifS_f (T_and (x := false) (y := false) (T_tr (E_bi (L_cons (E_vr rfl) (L_cons E_pu L_nil)) rfl) rfl) (fun h => rfl) (fun h => by cases h))]
    show RetS _ (blS [_, _, _] _ _) _
    rw [ifS_f (T_and (y := false) (T_tr (E_bi (L_cons (E_vr rfl) (L_cons E_pu L_nil)) rfl) (show tru (.d (.bl true)) st = some true from rfl)) (fun h => rfl) (fun _ => T_bo1 (T_not (T_tr (b := true) (E_bi (L_cons (E_vr rfl) (L_cons E_pu L_nil)) rfl) rfl))))]
    cases n with
    | zero => exact h.elim
    | succ n => exact same_seq (n := n) (.inr rfl) h.1 h.2 fun x hx => hcall n x rfl hx
  | obj c ns xs => exact absurd h (by cases n <;> simp [gd])
end
end IP
namespace IP
open PySem L2
/-! ### an instance made, a field set -/
theorem asgF_bl {fl : List (Str × Str)} {o e : Env → M Val} {f : Str} {ss : List SM} {env : Env} {st s1 s2 s3 : Store} {v : Val} {n : Nat} {c : Str} {ns : List Str} {xs : List Val} (he : Ev (e env) st v s1) (ho : Ev (o env) s1 (.r n) s2) (hm : s2[n]? = some (.obj c ns xs)) (hf : (c, f) ∈ fl ∧ ns.length < 900 ∧ ns.length = xs.length) (h3 : s2.set n (.obj c (putZ f v ns xs).1 (putZ f v ns xs).2) = s3) : blS (asgF fl o f e :: ss) env st = blS ss env s3 := by
  rw [show blS (asgF fl o f e :: ss) env st = seqS (asgF fl o f e) (blS ss) env st from rfl]
  unfold seqS
  have : asgF fl o f e env st = .ok .next env s3 := by
    unfold asgF withV
    rw [show e env st = _ from he]
    dsimp only
    rw [show o env s1 = _ from ho]
    dsimp only
    unfold setFieldM
    dsimp only
    rw [hm]
    dsimp only
    rw [if_pos hf, h3]
  rw [this]
def mkRules (size : Int) (rows : List (List Int)) : Int × List (List Int) := (size, sortT (dedup rows))
theorem low_d (c : Str) (ns : List Str) (ds : List DV) (n : Nat) : (Cell.obj c ns (ds.map Val.d)).low n = true := by
  refine List.all_eq_true.mpr fun x hx => ?_
  obtain ⟨y, _, rfl⟩ := List.mem_map.mp hx
  rfl
theorem mk_frozen {G : Glob} {call : Key2 → List Val → M Val} {c : Str} {vs : List Val} {st : Store} {ns : List Str} {ds : List DV} (hc : Closed st) (hf : lookS G.cls c = some true) (hi : call (c, some "__init__") (.r st.length :: vs) (st ++ [.obj c [] []]) = .ok (.d .non) (st ++ [.obj c ns (ds.map Val.d)])) : makeM G call c vs st = .ok (.d (.obj c ns ds)) st := by
  unfold makeM
  rw [hi]
  dsimp only
  rw [hf]
  dsimp only
  have e : (st ++ [Cell.obj c ns (ds.map Val.d)])[st.length]? = some (.obj c ns (ds.map Val.d)) := by simp
  rw [e]
  dsimp only
  rw [pureL_d]
  dsimp only
  rw [List.take_left]
  unfold Closed at hc
  rw [if_pos (by simp [hc])]
end IP
namespace IP
open PySem L2
theorem leLim {n : Nat} (h : Nat.ble n lim = true) : n ≤ lim := Nat.le_of_ble_eq_true h
theorem Closed.obj {c : Str} {ns : List Str} {ds : List DV} {st : Store} (h : Closed st) : Closed (st ++ [Cell.obj c ns (ds.map Val.d)]) := h.app (by rw [List.all_cons, low_d]; rfl)
def boxV (ns : List Int) (hn : ns.length ≤ 1000) : GBox := ⟨ns, 0, 0, 0, Int.le_refl 0, hn⟩
end IP

set_option maxHeartbeats 4000000
/-! PLib: plain facts about ranges, items, draws, rows. -/
namespace IP
open PySem L2
/-! ### side conditions and value, step by step -/
def HP {α : Type} (ok : Prop) (v : α) (P : α → Prop) : Prop := ok ∧ P v
theorem HP.lt {α β : Type} {a : α} {okR : α → Prop} {vR : α → β} {P : β → Prop} (h : ∀ x, x = a → HP (okR x) (vR x) P) : HP (lt a okR) (lt a vR) P := h a rfl
theorem HP.and {β : Type} {c ok : Prop} {v : β} {P : β → Prop} (hc : c) (h : HP ok v P) : HP (c ∧ ok) v P := ⟨⟨hc, h.1⟩, h.2⟩
theorem HP.done {β : Type} {ok : Prop} {v : β} {P : β → Prop} (h : ok) (hp : P v) : HP ok v P := ⟨h, hp⟩
theorem HP.ite {β : Type} {t : Bool} {ok1 ok0 : Prop} {x y : β} {P : β → Prop} (h1 : t = true → HP ok1 x P) (h0 : t = false → HP ok0 y P) : HP ((t = true → ok1) ∧ (t = false → ok0)) (if t then x else y) P := by
  cases t with
  | true => exact ⟨⟨fun _ => (h1 rfl).1, (fun h => by cases h)⟩, (h1 rfl).2⟩
  | false => exact ⟨⟨(fun h => by cases h), fun _ => (h0 rfl).1⟩, (h0 rfl).2⟩
theorem lt_i {α : Type} {a : α} {f : α → Prop} (h : ∀ x, x = a → f x) : lt a f := h a rfl
/-! ### ranges -/
theorem irange0 (n : Nat) : irange 0 (n : Int) = (List.range n).map fun (i : Nat) => (i : Int) := by
  unfold irange
  rw [Int.sub_zero, Int.toNat_natCast]
  exact List.map_congr_left fun i _ => by omega
theorem mem_irange {lo hi i : Int} : i ∈ irange lo hi ↔ lo ≤ i ∧ i < hi := by
  constructor
  · exact irange_mem
  · intro h
    unfold irange
    exact List.mem_map.mpr ⟨(i - lo).toNat, List.mem_range.mpr (by omega), by omega⟩
theorem irange_le {n : Int} (h : n ≤ 1000000) : (irange 0 n).length ≤ lim := by
  rw [irange_len]
  have : lim = 1000000 := rfl
  omega
theorem sm62 {n : Int} (h0 : -1000000 ≤ n) (h : n ≤ 1000000) : small62 n = true := by
  unfold small62
  simp only [Bool.and_eq_true, decide_eq_true_eq]
  omega
theorem inR_nat {n : Nat} {i : Int} (h0 : 0 ≤ i) (h : i < n) : inR n i := ⟨by omega, h⟩
theorem ix_at {α : Type} [Inhabited α] {xs : List α} {i : Nat} (h : i < xs.length) : ix xs (i : Int) = xs[i] := ix_nat xs i h
theorem list_ix {α : Type} [Inhabited α] (xs : List α) (n : Nat) (h : xs.length = n) : xs = (irange 0 (n : Int)).map fun k => ix xs k := by
  subst h
  rw [irange0, List.map_map]
  refine List.ext_getElem (by simp) fun i h1 h2 => ?_
  simp only [List.getElem_map, List.getElem_range, Function.comp]
  rw [ix_at h1]
theorem zip_ix {α β : Type} [Inhabited α] [Inhabited β] (a : List α) (b : List β) (n : Nat) (ha : a.length = n) (hb : b.length = n) : a.zip b = (irange 0 (n : Int)).map fun k => (ix a k, ix b k) := by
  rw [irange0, List.map_map]
  refine List.ext_getElem (by simp [ha, hb]) fun i h1 h2 => ?_
  simp only [List.getElem_map, List.getElem_range, Function.comp, List.getElem_zip]
  rw [ix_at (by simp at h1; omega), ix_at (by simp at h1; omega)]
theorem zip3_ix {α β γ : Type} [Inhabited α] [Inhabited β] [Inhabited γ] (a : List α) (b : List β) (c : List γ) (n : Nat) (ha : a.length = n) (hb : b.length = n) (hc : c.length = n) : a.zip (b.zip c) = (irange 0 (n : Int)).map fun k => (ix a k, ix b k, ix c k) := by
  rw [irange0, List.map_map]
  refine List.ext_getElem (by simp [ha, hb, hc]) fun i h1 h2 => ?_
  simp only [List.getElem_map, List.getElem_range, Function.comp, List.getElem_zip]
  rw [ix_at (by simp at h1; omega), ix_at (by simp at h1; omega), ix_at (by simp at h1; omega)]
theorem ix_map {α β : Type} [Inhabited α] [Inhabited β] (f : α → β) (xs : List α) {i : Int} (h0 : 0 ≤ i) (h : i < xs.length) : ix (xs.map f) i = f (ix xs i) := by
  obtain ⟨n, rfl⟩ : ∃ n : Nat, i = n := ⟨i.toNat, by omega⟩
  rw [ix_at (by simpa using h), ix_at (by omega), List.getElem_map]
theorem ix_irange {n : Nat} {i : Int} (h0 : 0 ≤ i) (h : i < n) : ix (irange 0 (n : Int)) i = i := by
  obtain ⟨k, rfl⟩ : ∃ n : Nat, i = n := ⟨i.toNat, by omega⟩
  rw [ix_at (by rw [irange_len]; omega)]
  simp [irange]
theorem irange_succ (n : Nat) : irange 0 ((n + 1 : Nat) : Int) = irange 0 (n : Int) ++ [(n : Int)] := by
  rw [irange0, irange0, List.range_succ, List.map_append]
  rfl
theorem foldl_range_succ {σ : Type} (f : σ → Int → σ) (s : σ) (n : Nat) : (irange 0 ((n + 1 : Nat) : Int)).foldl f s = f ((irange 0 (n : Int)).foldl f s) n := by
  rw [irange_succ, List.foldl_append]
  rfl
theorem okFor_app {σ α : Type} {ok : σ → α → Prop} {stp : σ → α → σ} : ∀ (xs ys : List α) (s : σ), okFor ok stp s (xs ++ ys) ↔ okFor ok stp s xs ∧ okFor ok stp (xs.foldl stp s) ys
  | [], ys, s => by simp [okFor]
  | x :: xs, ys, s => by
    simp only [List.cons_append, okFor, List.foldl_cons, okFor_app xs ys, and_assoc]
/-- a fold by an invariant -/
theorem okFor_inv {σ α : Type} {ok : σ → α → Prop} {stp : σ → α → σ} (I : σ → Prop) : ∀ (xs : List α) (s : σ), I s → (∀ s x, x ∈ xs → I s → ok s x ∧ I (stp s x)) → okFor ok stp s xs ∧ I (xs.foldl stp s)
  | [], s, h, _ => ⟨trivial, h⟩
  | x :: xs, s, h, hs => by
    obtain ⟨h1, h2⟩ := hs s x List.mem_cons_self h
    obtain ⟨h3, h4⟩ := okFor_inv I xs (stp s x) h2 fun s y m => hs s y (List.mem_cons_of_mem _ m)
    exact ⟨⟨h1, h3⟩, h4⟩
/-- a fold over a range by an invariant that knows the turn -/
theorem okFor_invN {σ : Type} {ok : σ → Int → Prop} {stp : σ → Int → σ} (I : Nat → σ → Prop) (s : σ) (h0 : I 0 s) : ∀ n : Nat, (∀ (k : Nat) s, k < n → I k s → ok s k ∧ I (k + 1) (stp s k)) → okFor ok stp s (irange 0 (n : Int)) ∧ I n ((irange 0 (n : Int)).foldl stp s)
  | 0, _ => ⟨trivial, h0⟩
  | n + 1, hs => by
    obtain ⟨h1, h2⟩ := okFor_invN I s h0 n fun k s hk => hs k s (by omega)
    obtain ⟨h3, h4⟩ := hs n _ (by omega) h2
    rw [irange_succ]
    refine ⟨(okFor_app _ _ _).mpr ⟨h1, h3, trivial⟩, ?_⟩
    rw [List.foldl_append]
    exact h4
theorem okForO_inv {σ α ρ : Type} {ok : σ → α → Prop} {stp : σ → α → LO σ ρ} (I : σ → Prop) : ∀ (xs : List α) (s : σ), I s → (∀ s x, x ∈ xs → I s → ok s x ∧ ∃ s', stp s x = .nx s' ∧ I s') → okForO ok stp s xs ∧ ∃ s', forO stp s xs = .nx s' ∧ I s'
  | [], s, h, _ => ⟨trivial, s, rfl, h⟩
  | x :: xs, s, h, hs => by
    obtain ⟨h1, s', e, h2⟩ := hs s x List.mem_cons_self h
    obtain ⟨h3, s2, e2, h4⟩ := okForO_inv I xs s' h2 fun s y m => hs s y (List.mem_cons_of_mem _ m)
    refine ⟨⟨h1, ?_⟩, s2, ?_, h4⟩
    · rw [e]
      exact h3
    · rw [forO, e]
      exact e2
/-! ### draws -/
theorem draw_lt (b : GBox) {l : Int} (h : 0 < l) : 0 ≤ (drawV b l).1 ∧ (drawV b l).1 < l := drawV_range b h
theorem draw_in (b : GBox) {n : Nat} (h : 0 < n) : inR n (drawV b (n : Int)).1 := by
  have := drawV_range b (l := n) (by omega)
  exact ⟨by omega, this.2⟩
theorem okLim_of {l : Int} (h : 0 < l) (h2 : l ≤ 1000000) : okLim l := by
  refine ⟨h, ?_⟩
  have : l.natAbs.log2 < 20 := (Nat.log2_lt (by omega)).mpr (by omega)
  omega
/-- all items that are drawn -/
theorem mapS_draw {α : Type} (f : α → GBox → Int × GBox) (ok : α → GBox → Prop) (lo hi : Int) (hok : ∀ x b, ok x b) (hr : ∀ x b, lo ≤ (f x b).1 ∧ (f x b).1 < hi) : ∀ (xs : List α) (b : GBox), okS f ok xs b ∧ (mapS f xs b).1.length = xs.length ∧ ∀ v ∈ (mapS f xs b).1, lo ≤ v ∧ v < hi
  | [], b => ⟨trivial, rfl, fun v h => by cases h⟩
  | x :: xs, b => by
    obtain ⟨h1, h2, h3⟩ := mapS_draw f ok lo hi hok hr xs (f x b).2
    refine ⟨⟨hok x b, h1⟩, by show (mapS f xs (f x b).2).1.length + 1 = _; rw [h2]; rfl, fun v hv => ?_⟩
    rcases List.mem_cons.mp hv with rfl | hv
    · exact hr x b
    · exact h3 v hv
theorem powOk2 {a : Int} (h0 : 0 ≤ a) (h : a ≤ 1000) : PowOkB 1 a = true := by
  unfold PowOkB
  simp only [Bool.and_eq_true, decide_eq_true_eq]
  refine ⟨⟨h0, by omega⟩, by decide⟩
theorem pow2_pos (n : Nat) : (0 : Int) < 2 ^ n := Int.pow_pos (by decide)
theorem pow2_le {n m : Nat} (h : n ≤ m) : (2 : Int) ^ n ≤ 2 ^ m := by
  exact_mod_cast Nat.pow_le_pow_right (by decide : 0 < 2) h
/-! ### rows -/
def IsRow (n : Nat) (r : List Int) : Prop := r.length = n ∧ ∀ v ∈ r, v = 0 ∨ v = 1
theorem IsRow.at {n : Nat} {r : List Int} (h : IsRow n r) {k : Int} (h0 : 0 ≤ k) (hk : k < n) : ix r k = 0 ∨ ix r k = 1 := h.2 _ (ix_mem (by rw [h.1]; exact inR_nat h0 hk))
theorem sortT_mem {x : List Int} {xs : List (List Int)} : x ∈ sortT xs ↔ x ∈ xs := (sortT_perm xs).mem_iff
theorem Like_row {n : Nat} {r : List Int} (h : IsRow n r) : Like n r := ⟨h.1, fun v hv => by
  rcases h.2 v hv with rfl | rfl <;> decide⟩
theorem dedup_self : ∀ {xs : List (List Int)}, xs.Nodup → dedup xs = xs
  | [], _ => rfl
  | x :: xs, h => by
    obtain ⟨h1, h2⟩ := List.nodup_cons.mp h
    unfold dedup
    rw [if_neg h1, dedup_self h2]
theorem likeT_of {d : Nat} {xs : List (List Int)} (h : ∀ y ∈ xs, Like d y) : likeT d xs = true := by
  refine List.all_eq_true.mpr fun y hy => ?_
  obtain ⟨h1, h2⟩ := h y hy
  simp only [Bool.and_eq_true, decide_eq_true_eq, List.all_eq_true]
  exact ⟨h1, fun i hi => h2 i hi⟩
theorem headLen_of {d : Nat} {xs : List (List Int)} (h : ∀ y ∈ xs, Like d y) (hne : xs ≠ []) : headLen xs = d := by
  cases xs with
  | nil => exact absurd rfl hne
  | cons x xs => exact (h x List.mem_cons_self).1
/-- a list of rules: rows of one size, ascending, each once -/
structure RList (n : Nat) (rows : List (List Int)) : Prop where
  row : ∀ r ∈ rows, IsRow n r
  ne : rows ≠ []
  sorted : sortT rows = rows
  nd : rows.Nodup
theorem RList.mkR {n : Nat} {rows : List (List Int)} (h : RList n rows) : mkRules n rows = ((n : Int), rows) := by
  unfold mkRules
  rw [dedup_self h.nd, h.sorted]
theorem sort_of {n : Nat} {rows : List (List Int)} (h : ∀ r ∈ rows, IsRow n r) : sortT (sortT rows) = sortT rows := by
  have := sortT_one (d := n) (xs := sortT rows) (ys := sortT rows) (fun y hy => Like_row (h y (sortT_mem.mp hy))) (List.Perm.refl _) (sortT_sorted _ fun y hy => Like_row (h y hy))
  exact this.symm
theorem RList.of_out {n : Nat} {out : List (List Int)} (h : ∀ r ∈ out, IsRow n r) (hne : out ≠ []) (nd : out.Nodup) : RList n (sortT out) where
  row r hr := h r (sortT_mem.mp hr)
  ne e := hne (by have := (sortT_perm out).length_eq; rw [e] at this; exact List.eq_nil_of_length_eq_zero this.symm)
  sorted := sort_of h
  nd := (sortT_perm out).nodup_iff.mpr nd
theorem okSort_of {n : Nat} {out : List (List Int)} (h : ∀ r ∈ out, IsRow n r) (hl : out.length < 64) (nd : out.Nodup) : okSort out := by
  refine ⟨hl, ?_⟩
  by_cases h2 : out.length < 2
  · simp [h2]
  · have hne : out ≠ [] := by intro e; rw [e] at h2; simp at h2
    have hL := fun y hy => Like_row (h y hy)
    rw [headLen_of hL hne, likeT_of hL]
    have : 0 < n := by
      rcases Nat.eq_zero_or_pos n with rfl | hp
      · exfalso
        match out, h2, nd, h with
        | a :: b :: r, _, nd, h =>
          have ha := List.eq_nil_of_length_eq_zero (h a List.mem_cons_self).1
          have hb := List.eq_nil_of_length_eq_zero (h b (List.mem_cons_of_mem _ List.mem_cons_self)).1
          subst ha hb
          exact (List.nodup_cons.mp nd).1 List.mem_cons_self
        | [], h2, _, _ => exact h2 (by simp)
        | [a], h2, _, _ => exact h2 (by simp)
      · exact hp
    simp [this]
theorem okSortSet_of {n : Nat} {out : List (List Int)} (h : ∀ r ∈ out, IsRow n r) (hl : out.length < 64) (hne : out ≠ []) : okSortSet out := by
  have hL := fun y hy => Like_row (h y hy)
  exact ⟨hl, by rw [headLen_of hL hne]; exact likeT_of hL⟩
theorem filter_none {α : Type} {p : α → Bool} {xs : List α} (h : ∀ x ∈ xs, p x = false) : xs.filter p = [] := by
  rw [List.filter_eq_nil_iff]
  intro x hx
  rw [h x hx]
  simp
end IP

set_option maxHeartbeats 0
namespace K97
open PySem PySem.Spec PyProof.Rows L2 IP
abbrev LW := PySem.Challenge.rw_learnrealm_k97_taken_one_by_one
def slotsG : List (Key2 × List Str) := [sl "is_integer" none ["value"],
  sl "is_number" none ["value"],
  sl "is_value" none ["value"],
  sl "is_row" none ["value", "size", "one"],
  sl "is_number_below" none ["value", "many"],
  sl "all_below" none ["values", "many", "value"],
  sl "are_numbers_below" none ["value", "many"],
  sl "look_at_rounds" none ["rules", "row", "rounds"],
  sl "look_at_numbers" none ["rules", "numbers"],
  sl "right_weight" none ["rule", "row", "weights", "own", "due", "weight"],
  sl "heaviest_rule" none ["rules", "row", "weights", "sums", "rule"],
  sl "doubled" none ["rule", "row", "weights", "own", "due", "weight"],
  sl "play" none ["rules", "row", "rounds", "weights", "numbers", "_", "number"],
  sl "taken" none ["rules", "row", "rounds"],
  sl "weights_behind" none ["rules", "row", "rounds"],
  sl "wrong_at" none ["rules", "row", "numbers", "point", "number"],
  sl "wrong_counts" none ["rules", "row", "numbers", "point"],
  sl "yes_at" none ["rules", "numbers", "point", "number"],
  sl "voted_by" none ["rules", "numbers", "point"],
  sl "are_rows" none ["size", "rows", "row"],
  sl "Rules" (some "__init__") ["self", "size", "rows"],
  sl "Rules" (some "__len__") ["self"],
  sl "Rules" (some "look_at_row") ["self", "row"],
  sl "_law_box" none ["script", "cell"],
  sl "_law_draw" none ["box", "limit", "cells", "k", "cell", "mixed", "digit"],
  sl "_law_same" none ["came", "due", "k"],
  sl "_law_row" none ["number", "size", "k"],
  sl "_law_list" none ["box", "size", "most", "shape", "numbers", "start", "out", "k", "ones", "row", "number"],
  sl "_law_played" none ["rows", "row", "rounds", "weights", "numbers", "gone", "best", "at", "i", "k", "right"],
  sl "_law_wrong" none ["rows", "row", "numbers", "k", "at"],
  sl "_law_voted" none ["rows", "size", "numbers", "yes", "k", "one", "at"],
  sl "_law_numbers" none ["box", "rows", "many", "out", "at", "yes", "no", "k"],
  sl "_law_counted" none ["rules", "rows", "row", "numbers"],
  sl "_law_all" none ["script", "box", "size", "rows", "row", "rounds", "rules", "fewer", "other", "k", "drawn", "numbers", "weights", "one"],
  sl "law" none ["script"]]
def G : Glob where
  defs := pickD (defsOf LW.prog.main.body) slotsG
  cls := [("Rules", true)]
  cons := []
  free := ["abs", "bool", "int", "isinstance", "len", "list", "max", "min", "range", "set", "sorted", "str", "sum", "tuple", "zip"]
  muts := [(59, 14), (148, 11), (198, 10), (206, 14), (225, 10), (233, 10)]
  flds := [("Rules", "size"), ("Rules", "rows")]
  mret := [("_law_box", none)]
  kws := [sl "wrong_counts" none ["numbers", "rules", "row"], sl "taken" none ["rules", "row", "rounds"], sl "weights_behind" none ["rounds", "row", "rules"], sl "voted_by" none ["numbers", "rules"]]
  excs := ["GuessError"]
end K97

set_option maxHeartbeats 0
namespace K97
open PySem PySem.Spec PyProof.Rows L2 IP
def names : List Str := (LW.prog.main.scope.names.map (·.1)).filter fun x => x != "law" && x != "__name__"
abbrev R : PySem.W.OpenRow := PySem.W.OpenLaw.row LW
abbrev hk : PySem.W.Hook := He.hookD 5 (faOf G) (G.defs.map (·.1))
def ob (s : PySem.W.SharedT) : He.AlD := He.obsDG 5 (faOf G) (G.defs.map (·.1)) (HandSHeadRun.getT s)
theorem ob_eq (s : PySem.W.SharedT) : ob s = hk.obs s.abs := He.obsDG_eq (HandSHeadRun.getT_eq s)
theorem run (w : World) : HandSHeadRun.RunEq R (PySem.W.view R.prog [45]) hk ob 6000 names w := by
  intro os
  kernel_rfl
theorem kw_ok : ∀ key ks d N', (key, ks) ∈ G.kws → G.find key = some (d, N') → KwOk d ks := by
  intro key ks d N' h hf
  have h : (key, ks) ∈ ([sl "wrong_counts" none ["numbers", "rules", "row"], sl "taken" none ["rules", "row", "rounds"], sl "weights_behind" none ["rounds", "row", "rules"], sl "voted_by" none ["numbers", "rules"]] : List (Key2 × List Str)) := h
  simp only [sl, List.mem_cons, List.not_mem_nil, or_false, Prod.mk.injEq] at h
  rcases h with ⟨⟨rfl, rfl⟩, rfl⟩ | ⟨⟨rfl, rfl⟩, rfl⟩ | ⟨⟨rfl, rfl⟩, rfl⟩ | ⟨⟨rfl, rfl⟩, rfl⟩
  · have e : G.find ("wrong_counts", none) = some ((G.find ("wrong_counts", none)).getD default0) := by kernel_rfl
    rw [e] at hf
    cases hf
    refine ⟨by decide +kernel, fun kV doc pm an cdv ct ws hl => ?_⟩
    match ws, hl with
    | [w0, w1, w2], _ => kernel_rfl
  · have e : G.find ("taken", none) = some ((G.find ("taken", none)).getD default0) := by kernel_rfl
    rw [e] at hf
    cases hf
    refine ⟨by decide +kernel, fun kV doc pm an cdv ct ws hl => ?_⟩
    match ws, hl with
    | [w0, w1, w2], _ => kernel_rfl
  · have e : G.find ("weights_behind", none) = some ((G.find ("weights_behind", none)).getD default0) := by kernel_rfl
    rw [e] at hf
    cases hf
    refine ⟨by decide +kernel, fun kV doc pm an cdv ct ws hl => ?_⟩
    match ws, hl with
    | [w0, w1, w2], _ => kernel_rfl
  · have e : G.find ("voted_by", none) = some ((G.find ("voted_by", none)).getD default0) := by kernel_rfl
    rw [e] at hf
    cases hf
    refine ⟨by decide +kernel, fun kV doc pm an cdv ct ws hl => ?_⟩
    match ws, hl with
    | [w0, w1], _ => kernel_rfl
abbrev tD : DefRec := HandSHeadRun.topDef R.prog 45
abbrev vw : Program := PySem.W.view R.prog [45]
theorem v1 : PySem.W.opening R.prog = PySem.W.plainProg R.prog.main.scope.names := by kernel_rfl
theorem v2 : ∀ s, fenceModules? R.prog s = some s := fun s => by kernel_rfl
theorem v3 : PySem.W.defOf vw R.name = some (tD, []) := by kernel_rfl
theorem v4 : R.prog.theDef R.name = some (tD.params, tD.body, tD.scope) := by kernel_rfl
theorem v5 : PySem.W.kwWritten? tD.params.kwonlyargs tD.params.kw_defaults = some [] := by kernel_rfl
theorem v6 : (!R.writes || R.records.isEmpty) = true := by rfl
theorem v7 : R.wellSaid = true := by decide +kernel
theorem v8 : (PySem.W.chainsOk vw && PySem.W.opensWell R.prog && (PySem.W.frees R.toRowW && R.within.isEmpty)) = true := by decide +kernel
theorem v9 : R.prog.bare := ⟨by kernel_rfl, by kernel_rfl, by kernel_rfl, by kernel_rfl, by kernel_rfl, by decide +kernel⟩
theorem v10 : R.toRowW.promised := by w_witness2
theorem row_holds (call : PySem.W.WalkO vw names (PySem.W.XL vw []) hk.says R.toRowW tD [] fun f vs => PySem.call f vs) : R.Holds :=
  HandSHeadRun.head_any (r := R) (q := vw) (H := hk) (ob := ob) (M := 6000) (loose := names) (d := tD) (kwd := []) ob_eq v1 v2 run v3 v4 v5 v6 v7 v8 v9 v10 call
theorem law_holds (h : R.Holds) : LW.Holds := by
  w_on; o_law
  exact h
theorem w1 : LW.most = some 63 := rfl
theorem w2 : tD.params.defaults = [] := by kernel_rfl
theorem w3 : tD.name = "law" := by kernel_rfl
theorem w4 : G.cons.all conOk = true := by decide +kernel
theorem w5 : G.defs.all defOkB = true := by decide +kernel
abbrev lawD : He.DefD × List Str := (G.find ("law", none)).getD default0
theorem w6 : G.find ("law", none) = some (lawD.1, lawD.2) := by kernel_rfl
theorem w7 : parsOf lawD.1 = [("script" : Str)] := by kernel_rfl
theorem holds_of {k : Nat} (hr : Room (2 * (k + 1)) callerA) (ans : ∀ ns : List Int, ns.length ≤ 63 → (∀ z ∈ ns, Builtin.Int.intBits z ≤ 1048576) → ∃ st, callF G 1000000 (k + 1) ("law", none) [.scr ns] [] = .ok (.d (.bl true)) st) : LW.Holds :=
  law_holds (row_holds (law_walk (l := LW) (n := 63) (x := "script") (dl := lawD.1) (N := lawD.2) G w1 (by decide) w2 hr w3 w4 w5 kw_ok w6 w7 ans))
theorem room30 : Room (2 * (30 + 1)) callerA := ⟨rfl, by decide, by decide⟩
end K97

set_option maxHeartbeats 0
namespace K97
open PySem PySem.Spec PyProof.Rows L2 IP
def b_is_integer (call : Key2 → List Val → M Val) : SM := (blS [(retS (fun e => (boM .And [(biM (f2 fun x y => biIsi x [y]) [(vr 0 e), (pure (.ty "int"))]), (unM .Not (biM (f2 fun x y => biIsi x [y]) [(vr 0 e), (pure (.ty "bool"))]))])))])
theorem q_is_integer (k : Nat) (a0 : Val) (st : Store) : callF G 1000000 (k + 1) ("is_integer", none) [a0] st = endR st.length false (b_is_integer (callF G 1000000 k) [some a0] st) := by kernel_rfl

def b_is_number (call : Key2 → List Val → M Val) : SM := (blS [(retS (fun e => (boM .And [(caM (call ("is_integer", none)) [(vr 0 e)]), (cmpM .GtE (vr 0 e) (pure (.d (.int 0))))])))])
theorem q_is_number (k : Nat) (a0 : Val) (st : Store) : callF G 1000000 (k + 1) ("is_number", none) [a0] st = endR st.length false (b_is_number (callF G 1000000 k) [some a0] st) := by kernel_rfl

def b_is_value (call : Key2 → List Val → M Val) : SM := (blS [(retS (fun e => (boM .And [(caM (call ("is_integer", none)) [(vr 0 e)]), (cmp2M .LtE .LtE (pure (.d (.int 0))) (vr 0 e) (pure (.d (.int 1))))])))])
theorem q_is_value (k : Nat) (a0 : Val) (st : Store) : callF G 1000000 (k + 1) ("is_value", none) [a0] st = endR st.length false (b_is_value (callF G 1000000 k) [some a0] st) := by kernel_rfl

def b_is_row (call : Key2 → List Val → M Val) : SM := (blS [(ifS (fun e => (boT .Or [(notT (trT (biM (f2 fun x y => biIsi x [y]) [(vr 0 e), (pure (.ty "tuple"))]))), (cmpT .NotEq (leM call (vr 0 e)) (vr 1 e))])) (blS [(retS (fun e => (pure (.d (.bl false)))))]) (blS [])), (retS (fun e => (cmpM .Eq (leM call (lcM false (genM (vr 0 e)) [2] (tg1 2) (fun e => (notT (trT (caM (call ("is_value", none)) [(vr 2 e)])))) (fun e => (vr 2 e)) e)) (pure (.d (.int 0))))))])
theorem q_is_row (k : Nat) (a0 a1 : Val) (st : Store) : callF G 1000000 (k + 1) ("is_row", none) [a0, a1] st = endR st.length false (b_is_row (callF G 1000000 k) [some a0, some a1, none] st) := by kernel_rfl

def b_is_number_below (call : Key2 → List Val → M Val) : SM := (blS [(retS (fun e => (boM .And [(caM (call ("is_integer", none)) [(vr 0 e)]), (cmp2M .LtE .Lt (pure (.d (.int 0))) (vr 0 e) (vr 1 e))])))])
theorem q_is_number_below (k : Nat) (a0 a1 : Val) (st : Store) : callF G 1000000 (k + 1) ("is_number_below", none) [a0, a1] st = endR st.length false (b_is_number_below (callF G 1000000 k) [some a0, some a1] st) := by kernel_rfl

def b_all_below (call : Key2 → List Val → M Val) : SM := (blS [(retS (fun e => (cmpM .Eq (leM call (lcM false (genM (vr 0 e)) [2] (tg1 2) (fun e => (notT (trT (caM (call ("is_number_below", none)) [(vr 2 e), (vr 1 e)])))) (fun e => (vr 2 e)) e)) (pure (.d (.int 0))))))])
theorem q_all_below (k : Nat) (a0 a1 : Val) (st : Store) : callF G 1000000 (k + 1) ("all_below", none) [a0, a1] st = endR st.length false (b_all_below (callF G 1000000 k) [some a0, some a1, none] st) := by kernel_rfl

def b_are_numbers_below (call : Key2 → List Val → M Val) : SM := (blS [(retS (fun e => (boM .And [(biM (f2 fun x y => biIsi x [y]) [(vr 0 e), (pure (.ty "tuple"))]), (caM (call ("all_below", none)) [(vr 0 e), (vr 1 e)])])))])
theorem q_are_numbers_below (k : Nat) (a0 a1 : Val) (st : Store) : callF G 1000000 (k + 1) ("are_numbers_below", none) [a0, a1] st = endR st.length false (b_are_numbers_below (callF G 1000000 k) [some a0, some a1] st) := by kernel_rfl

def b_look_at_rounds (call : Key2 → List Val → M Val) : SM := (blS [(exprS (fun e => (meM G call (vr 0 e) "look_at_row" [(vr 1 e)]))), (ifS (fun e => (notT (trT (caM (call ("is_number", none)) [(vr 2 e)])))) (blS [badS]) (blS []))])
theorem q_look_at_rounds (k : Nat) (a0 a1 a2 : Val) (st : Store) : callF G 1000000 (k + 1) ("look_at_rounds", none) [a0, a1, a2] st = endR st.length false (b_look_at_rounds (callF G 1000000 k) [some a0, some a1, some a2] st) := by kernel_rfl

def b_look_at_numbers (call : Key2 → List Val → M Val) : SM := (blS [(ifS (fun e => (notT (trT (caM (call ("are_numbers_below", none)) [(vr 1 e), (leM call (vr 0 e))])))) (blS [badS]) (blS []))])
theorem q_look_at_numbers (k : Nat) (a0 a1 : Val) (st : Store) : callF G 1000000 (k + 1) ("look_at_numbers", none) [a0, a1] st = endR st.length false (b_look_at_numbers (callF G 1000000 k) [some a0, some a1] st) := by kernel_rfl

def b_right_weight (call : Key2 → List Val → M Val) : SM := (blS [(retS (fun e => (biM (f1 biSum) [(lcM false (zipM [(vr 0 e), (vr 1 e), (vr 2 e)]) [3, 4, 5] (tgs [3, 4, 5]) (fun e => (cmpT .Eq (vr 3 e) (vr 4 e))) (fun e => (vr 5 e)) e)])))])
theorem q_right_weight (k : Nat) (a0 a1 a2 : Val) (st : Store) : callF G 1000000 (k + 1) ("right_weight", none) [a0, a1, a2] st = endR st.length false (b_right_weight (callF G 1000000 k) [some a0, some a1, some a2, none, none, none] st) := by kernel_rfl

def b_heaviest_rule (call : Key2 → List Val → M Val) : SM := (blS [(asgS 3 (fun e => (lcM false (genM (fldM [("Rules", "size"), ("Rules", "rows")] (vr 0 e) "rows")) [4] (tg1 4) noCond (fun e => (caM (call ("right_weight", none)) [(vr 4 e), (vr 1 e), (vr 2 e)])) e))), (retS (fun e => (meM G call (vr 3 e) "index" [(biM (f1 fun v => biInts v fun is => if is.isEmpty then none else some (maxI is)) [(vr 3 e)])])))])
theorem q_heaviest_rule (k : Nat) (a0 a1 a2 : Val) (st : Store) : callF G 1000000 (k + 1) ("heaviest_rule", none) [a0, a1, a2] st = endR st.length false (b_heaviest_rule (callF G 1000000 k) [some a0, some a1, some a2, none, none] st) := by kernel_rfl

def b_doubled (call : Key2 → List Val → M Val) : SM := (blS [(retS (fun e => (biM (f1 biTuple) [(lcM false (zipM [(vr 0 e), (vr 1 e), (vr 2 e)]) [3, 4, 5] (tgs [3, 4, 5]) noCond (fun e => (ifM (cmpT .Eq (vr 3 e) (vr 4 e)) (vr 5 e) (binM .Mult (pure (.d (.int 2))) (vr 5 e)))) e)])))])
theorem q_doubled (k : Nat) (a0 a1 a2 : Val) (st : Store) : callF G 1000000 (k + 1) ("doubled", none) [a0, a1, a2] st = endR st.length false (b_doubled (callF G 1000000 k) [some a0, some a1, some a2, none, none, none] st) := by kernel_rfl

def b_play (call : Key2 → List Val → M Val) : SM := (blS [(asgS 3 (fun e => (binM .Mult (tuM [(pure (.d (.int 1)))]) (fldM [("Rules", "size"), ("Rules", "rows")] (vr 0 e) "size")))), (asgS 4 (fun e => (liM true []))), (forS (fun e => (rngM [(vr 2 e)])) (tg1 5) (blS [(asgS 6 (fun e => (caM (call ("heaviest_rule", none)) [(vr 0 e), (vr 1 e), (vr 3 e)]))), (exprS (fun e => (meM G call (vr 4 e) "append" [(vr 6 e)]))), (asgS 3 (fun e => (caM (call ("doubled", none)) [(subM (fldM [("Rules", "size"), ("Rules", "rows")] (vr 0 e) "rows") (vr 6 e)), (vr 1 e), (vr 3 e)])))])), (retS (fun e => (tuM [(biM (f1 biTuple) [(vr 4 e)]), (vr 3 e)])))])
theorem q_play (k : Nat) (a0 a1 a2 : Val) (st : Store) : callF G 1000000 (k + 1) ("play", none) [a0, a1, a2] st = endR st.length false (b_play (callF G 1000000 k) [some a0, some a1, some a2, none, none, none, none] st) := by kernel_rfl

def b_taken (call : Key2 → List Val → M Val) : SM := (blS [(exprS (fun e => (caM (call ("look_at_rounds", none)) [(vr 0 e), (vr 1 e), (vr 2 e)]))), (retS (fun e => (subM (caM (call ("play", none)) [(vr 0 e), (vr 1 e), (vr 2 e)]) (pure (.d (.int 0))))))])
theorem q_taken (k : Nat) (a0 a1 a2 : Val) (st : Store) : callF G 1000000 (k + 1) ("taken", none) [a0, a1, a2] st = endR st.length false (b_taken (callF G 1000000 k) [some a0, some a1, some a2] st) := by kernel_rfl

def b_weights_behind (call : Key2 → List Val → M Val) : SM := (blS [(exprS (fun e => (caM (call ("look_at_rounds", none)) [(vr 0 e), (vr 1 e), (vr 2 e)]))), (retS (fun e => (subM (caM (call ("play", none)) [(vr 0 e), (vr 1 e), (vr 2 e)]) (pure (.d (.int 1))))))])
theorem q_weights_behind (k : Nat) (a0 a1 a2 : Val) (st : Store) : callF G 1000000 (k + 1) ("weights_behind", none) [a0, a1, a2] st = endR st.length false (b_weights_behind (callF G 1000000 k) [some a0, some a1, some a2] st) := by kernel_rfl

def b_wrong_at (call : Key2 → List Val → M Val) : SM := (blS [(retS (fun e => (leM call (lcM false (genM (vr 2 e)) [4] (tg1 4) (fun e => (cmpT .NotEq (subM (subM (fldM [("Rules", "size"), ("Rules", "rows")] (vr 0 e) "rows") (vr 4 e)) (vr 3 e)) (subM (vr 1 e) (vr 3 e)))) (fun e => (vr 4 e)) e))))])
theorem q_wrong_at (k : Nat) (a0 a1 a2 a3 : Val) (st : Store) : callF G 1000000 (k + 1) ("wrong_at", none) [a0, a1, a2, a3] st = endR st.length false (b_wrong_at (callF G 1000000 k) [some a0, some a1, some a2, some a3, none] st) := by kernel_rfl

def b_wrong_counts (call : Key2 → List Val → M Val) : SM := (blS [(exprS (fun e => (meM G call (vr 0 e) "look_at_row" [(vr 1 e)]))), (exprS (fun e => (caM (call ("look_at_numbers", none)) [(vr 0 e), (vr 2 e)]))), (retS (fun e => (biM (f1 biTuple) [(lcM false (rngM [(fldM [("Rules", "size"), ("Rules", "rows")] (vr 0 e) "size")]) [3] (tg1 3) noCond (fun e => (caM (call ("wrong_at", none)) [(vr 0 e), (vr 1 e), (vr 2 e), (vr 3 e)])) e)])))])
theorem q_wrong_counts (k : Nat) (a0 a1 a2 : Val) (st : Store) : callF G 1000000 (k + 1) ("wrong_counts", none) [a0, a1, a2] st = endR st.length false (b_wrong_counts (callF G 1000000 k) [some a0, some a1, some a2, none] st) := by kernel_rfl

def b_yes_at (call : Key2 → List Val → M Val) : SM := (blS [(retS (fun e => (biM (f1 biSum) [(lcM false (genM (vr 1 e)) [3] (tg1 3) noCond (fun e => (subM (subM (fldM [("Rules", "size"), ("Rules", "rows")] (vr 0 e) "rows") (vr 3 e)) (vr 2 e))) e)])))])
theorem q_yes_at (k : Nat) (a0 a1 a2 : Val) (st : Store) : callF G 1000000 (k + 1) ("yes_at", none) [a0, a1, a2] st = endR st.length false (b_yes_at (callF G 1000000 k) [some a0, some a1, some a2, none] st) := by kernel_rfl

def b_voted_by (call : Key2 → List Val → M Val) : SM := (blS [(exprS (fun e => (caM (call ("look_at_numbers", none)) [(vr 0 e), (vr 1 e)]))), (retS (fun e => (biM (f1 biTuple) [(lcM false (rngM [(fldM [("Rules", "size"), ("Rules", "rows")] (vr 0 e) "size")]) [2] (tg1 2) noCond (fun e => (biM (f1 biInt) [(cmpM .Gt (binM .Mult (pure (.d (.int 2))) (caM (call ("yes_at", none)) [(vr 0 e), (vr 1 e), (vr 2 e)])) (leM call (vr 1 e)))])) e)])))])
theorem q_voted_by (k : Nat) (a0 a1 : Val) (st : Store) : callF G 1000000 (k + 1) ("voted_by", none) [a0, a1] st = endR st.length false (b_voted_by (callF G 1000000 k) [some a0, some a1, none] st) := by kernel_rfl

def b_are_rows (call : Key2 → List Val → M Val) : SM := (blS [(ifS (fun e => (boT .Or [(notT (trT (caM (call ("is_number", none)) [(vr 0 e)]))), (notT (trT (isM (vr 1 e) [(pure (.ty "tuple")), (pure (.ty "list"))]))), (cmpT .Eq (leM call (vr 1 e)) (pure (.d (.int 0))))])) (blS [(retS (fun e => (pure (.d (.bl false)))))]) (blS [])), (retS (fun e => (cmpM .Eq (leM call (lcM false (genM (vr 1 e)) [2] (tg1 2) (fun e => (notT (trT (caM (call ("is_row", none)) [(vr 2 e), (vr 0 e)])))) (fun e => (vr 2 e)) e)) (pure (.d (.int 0))))))])
theorem q_are_rows (k : Nat) (a0 a1 : Val) (st : Store) : callF G 1000000 (k + 1) ("are_rows", none) [a0, a1] st = endR st.length false (b_are_rows (callF G 1000000 k) [some a0, some a1, none] st) := by kernel_rfl

def b_Rules___init__ (call : Key2 → List Val → M Val) : SM := (blS [(ifS (fun e => (notT (trT (caM (call ("are_rows", none)) [(vr 1 e), (vr 2 e)])))) (blS [badS]) (blS [])), (asgF [("Rules", "size"), ("Rules", "rows")] (fun e => (vr 0 e)) "size" (fun e => (vr 1 e))), (asgF [("Rules", "size"), ("Rules", "rows")] (fun e => (vr 0 e)) "rows" (fun e => (biM (f1 biTuple) [(ssM (vr 2 e))])))])
theorem q_Rules___init__ (k : Nat) (a0 a1 a2 : Val) (st : Store) : callF G 1000000 (k + 1) ("Rules", (some "__init__")) [a0, a1, a2] st = endR st.length false (b_Rules___init__ (callF G 1000000 k) [some a0, some a1, some a2] st) := by kernel_rfl

def b_Rules___len__ (call : Key2 → List Val → M Val) : SM := (blS [(retS (fun e => (leM call (fldM [("Rules", "size"), ("Rules", "rows")] (vr 0 e) "rows"))))])
theorem q_Rules___len__ (k : Nat) (a0 : Val) (st : Store) : callF G 1000000 (k + 1) ("Rules", (some "__len__")) [a0] st = endR st.length false (b_Rules___len__ (callF G 1000000 k) [some a0] st) := by kernel_rfl

def b_Rules_look_at_row (call : Key2 → List Val → M Val) : SM := (blS [(ifS (fun e => (notT (trT (caM (call ("is_row", none)) [(vr 1 e), (fldM [("Rules", "size"), ("Rules", "rows")] (vr 0 e) "size")])))) (blS [badS]) (blS []))])
theorem q_Rules_look_at_row (k : Nat) (a0 a1 : Val) (st : Store) : callF G 1000000 (k + 1) ("Rules", (some "look_at_row")) [a0, a1] st = endR st.length false (b_Rules_look_at_row (callF G 1000000 k) [some a0, some a1] st) := by kernel_rfl

def b__law_box (call : Key2 → List Val → M Val) : SM := (blS [(retS (fun e => (liM true [(lcM false (genM (vr 0 e)) [1] (tg1 1) noCond (fun e => (biM (f1 biInt) [(vr 1 e)])) e), (pure (.d (.int 0))), (pure (.d (.int 0))), (pure (.d (.int 0)))])))])
theorem q__law_box (k : Nat) (a0 : Val) (st : Store) : callF G 1000000 (k + 1) ("_law_box", none) [a0] st = endR st.length true (b__law_box (callF G 1000000 k) [some a0, none] st) := by kernel_rfl

def b__law_draw (call : Key2 → List Val → M Val) : SM := (blS [(asgS 2 (fun e => (subM (vr 0 e) (pure (.d (.int 0)))))), (asgI (fun e => (vr 0 e)) (fun e => (pure (.d (.int 1)))) (fun e => (binM .Add (subM (vr 0 e) (pure (.d (.int 1)))) (pure (.d (.int 1)))))), (forS (fun e => (rngM [(leM call (vr 2 e))])) (tg1 3) (blS [(ifS (fun e => (boT .Or [(cmpT .Gt (subM (vr 0 e) (pure (.d (.int 2)))) (pure (.d (.int 0)))), (cmpT .GtE (subM (vr 0 e) (pure (.d (.int 3)))) (leM call (vr 2 e)))])) (blS [brkS]) (blS [])), (ifS (fun e => (cmpT .GtE (biM (f1 biAbs) [(subM (vr 2 e) (subM (vr 0 e) (pure (.d (.int 3)))))]) (binM .Pow (pure (.d (.int 10))) (pure (.d (.int 18)))))) (blS [(asgI (fun e => (vr 0 e)) (fun e => (pure (.d (.int 2)))) (fun e => (biM (f1 biAbs) [(subM (vr 2 e) (subM (vr 0 e) (pure (.d (.int 3)))))])))]) (blS [])), (asgI (fun e => (vr 0 e)) (fun e => (pure (.d (.int 3)))) (fun e => (binM .Add (subM (vr 0 e) (pure (.d (.int 3)))) (pure (.d (.int 1))))))])), (ifS (fun e => (cmpT .Gt (subM (vr 0 e) (pure (.d (.int 2)))) (pure (.d (.int 0))))) (blS [(asgS 6 (fun e => (binM .Mod (biM (f1 biInt) [(subM (vr 0 e) (pure (.d (.int 2))))]) (vr 1 e)))), (asgI (fun e => (vr 0 e)) (fun e => (pure (.d (.int 2)))) (fun e => (binM .FloorDiv (subM (vr 0 e) (pure (.d (.int 2)))) (vr 1 e)))), (retS (fun e => (vr 6 e)))]) (blS [])), (asgS 4 (fun e => (pure (.d (.int 0))))), (ifS (fun e => (cmpT .Gt (leM call (vr 2 e)) (pure (.d (.int 0))))) (blS [(asgS 4 (fun e => (biM (f1 biAbs) [(subM (vr 2 e) (binM .Mod (biM (f1 biInt) [(subM (vr 0 e) (pure (.d (.int 1))))]) (leM call (vr 2 e))))])))]) (blS [])), (asgS 5 (fun e => (binM .Mod (biM (f1 biInt) [(binM .Add (binM .Add (binM .Mult (vr 4 e) (pure (.d (.int 48271)))) (binM .Mult (subM (vr 0 e) (pure (.d (.int 1)))) (pure (.d (.int 69621))))) (pure (.d (.int 13))))]) (pure (.d (.int 2147483647)))))), (asgS 5 (fun e => (binM .Mod (biM (f1 biInt) [(binM .Add (binM .Add (binM .Mult (vr 5 e) (vr 5 e)) (binM .Mult (subM (vr 0 e) (pure (.d (.int 1)))) (pure (.d (.int 30011))))) (pure (.d (.int 7))))]) (pure (.d (.int 2147483629)))))), (asgS 5 (fun e => (binM .Mod (biM (f1 biInt) [(binM .Add (binM .Add (binM .Mult (vr 5 e) (pure (.d (.int 16807)))) (binM .FloorDiv (vr 4 e) (pure (.d (.int 7))))) (pure (.d (.int 5))))]) (pure (.d (.int 998244353)))))), (retS (fun e => (binM .Mod (biM (f1 biInt) [(binM .FloorDiv (vr 5 e) (pure (.d (.int 5))))]) (vr 1 e))))])
theorem q__law_draw (k : Nat) (a0 a1 : Val) (st : Store) : callF G 1000000 (k + 1) ("_law_draw", none) [a0, a1] st = endR st.length false (b__law_draw (callF G 1000000 k) [some a0, some a1, none, none, none, none, none] st) := by kernel_rfl

def b__law_same (call : Key2 → List Val → M Val) : SM := (blS [(ifS (fun e => (cmpT .Is (vr 1 e) (pure (.d .non)))) (blS [(retS (fun e => (cmpM .Is (vr 0 e) (pure (.d .non)))))]) (blS [])), (ifS (fun e => (trT (biM (f2 fun x y => biIsi x [y]) [(vr 1 e), (pure (.ty "bool"))]))) (blS [(retS (fun e => (boM .And [(biM (f2 fun x y => biIsi x [y]) [(vr 0 e), (pure (.ty "bool"))]), (cmpM .Eq (vr 0 e) (vr 1 e))])))]) (blS [])), (ifS (fun e => (trT (biM (f2 fun x y => biIsi x [y]) [(vr 1 e), (pure (.ty "int"))]))) (blS [(retS (fun e => (boM .And [(biM (f2 fun x y => biIsi x [y]) [(vr 0 e), (pure (.ty "int"))]), (unM .Not (biM (f2 fun x y => biIsi x [y]) [(vr 0 e), (pure (.ty "bool"))])), (cmpM .Eq (vr 0 e) (vr 1 e))])))]) (blS [])), (ifS (fun e => (trT (biM (f2 fun x y => biIsi x [y]) [(vr 1 e), (pure (.ty "str"))]))) (blS [(retS (fun e => (boM .And [(biM (f2 fun x y => biIsi x [y]) [(vr 0 e), (pure (.ty "str"))]), (cmpM .Eq (vr 0 e) (vr 1 e))])))]) (blS [])), (ifS (fun e => (boT .And [(trT (biM (f2 fun x y => biIsi x [y]) [(vr 1 e), (pure (.ty "tuple"))])), (notT (trT (biM (f2 fun x y => biIsi x [y]) [(vr 0 e), (pure (.ty "tuple"))])))])) (blS [(retS (fun e => (pure (.d (.bl false)))))]) (blS [])), (ifS (fun e => (boT .And [(trT (biM (f2 fun x y => biIsi x [y]) [(vr 1 e), (pure (.ty "list"))])), (notT (trT (biM (f2 fun x y => biIsi x [y]) [(vr 0 e), (pure (.ty "list"))])))])) (blS [(retS (fun e => (pure (.d (.bl false)))))]) (blS [])), (ifS (fun e => (cmpT .NotEq (leM call (vr 0 e)) (leM call (vr 1 e)))) (blS [(retS (fun e => (pure (.d (.bl false)))))]) (blS [])), (retS (fun e => (cmpM .NotIn (pure (.d (.bl false))) (lcM false (rngM [(leM call (vr 1 e))]) [2] (tg1 2) noCond (fun e => (caM (call ("_law_same", none)) [(subM (vr 0 e) (vr 2 e)), (subM (vr 1 e) (vr 2 e))])) e))))])
theorem q__law_same (k : Nat) (a0 a1 : Val) (st : Store) : callF G 1000000 (k + 1) ("_law_same", none) [a0, a1] st = endR st.length false (b__law_same (callF G 1000000 k) [some a0, some a1, none] st) := by kernel_rfl

def b__law_row (call : Key2 → List Val → M Val) : SM := (blS [(retS (fun e => (biM (f1 biTuple) [(lcM false (rngM [(vr 1 e)]) [2] (tg1 2) noCond (fun e => (binM .BitAnd (binM .RShift (vr 0 e) (vr 2 e)) (pure (.d (.int 1))))) e)])))])
theorem q__law_row (k : Nat) (a0 a1 : Val) (st : Store) : callF G 1000000 (k + 1) ("_law_row", none) [a0, a1] st = endR st.length false (b__law_row (callF G 1000000 k) [some a0, some a1, none] st) := by kernel_rfl

def b__law_list (call : Key2 → List Val → M Val) : SM := (blS [(asgS 3 (fun e => (caM (call ("_law_draw", none)) [(vr 0 e), (pure (.d (.int 7)))]))), (asgS 4 (fun e => (lcM false (rngM [(binM .Add (pure (.d (.int 1))) (caM (call ("_law_draw", none)) [(vr 0 e), (vr 2 e)]))]) [7] (tg1 7) noCond (fun e => (caM (call ("_law_draw", none)) [(vr 0 e), (binM .LShift (pure (.d (.int 1))) (vr 1 e))])) e))), (ifS (fun e => (cmpT .Eq (vr 3 e) (pure (.d (.int 0))))) (blS [(asgS 4 (fun e => (lcM false (rngM [(binM .LShift (pure (.d (.int 1))) (vr 1 e))]) [10] (tg1 10) noCond (fun e => (vr 10 e)) e)))]) (blS [])), (ifS (fun e => (cmpT .Eq (vr 3 e) (pure (.d (.int 1))))) (blS [(asgS 8 (fun e => (caM (call ("_law_draw", none)) [(vr 0 e), (binM .Add (vr 1 e) (pure (.d (.int 1))))]))), (asgS 4 (fun e => (lcM false (rngM [(binM .LShift (pure (.d (.int 1))) (vr 1 e))]) [10] (tg1 10) (fun e => (cmpT .Eq (biM (f1 biSum) [(caM (call ("_law_row", none)) [(vr 10 e), (vr 1 e)])]) (vr 8 e))) (fun e => (vr 10 e)) e)))]) (blS [])), (ifS (fun e => (cmpT .Eq (vr 3 e) (pure (.d (.int 2))))) (blS [(asgS 4 (fun e => (binM .Add (lcM false (rngM [(vr 1 e)]) [7] (tg1 7) noCond (fun e => (binM .BitXor (subM (vr 4 e) (pure (.d (.int 0)))) (binM .LShift (pure (.d (.int 1))) (vr 7 e)))) e) (cutM (vr 4 e) (pure none) (poM (pure (.d (.int 2))))))))]) (blS [])), (asgS 5 (fun e => (caM (call ("_law_draw", none)) [(vr 0 e), (leM call (vr 4 e))]))), (asgS 6 (fun e => (liM true []))), (forS (fun e => (rngM [(leM call (vr 4 e))])) (tg1 7) (blS [(asgS 9 (fun e => (caM (call ("_law_row", none)) [(subM (vr 4 e) (binM .Mod (biM (f1 biInt) [(binM .Add (vr 5 e) (vr 7 e))]) (leM call (vr 4 e)))), (vr 1 e)]))), (ifS (fun e => (boT .And [(cmpT .NotIn (vr 9 e) (vr 6 e)), (cmpT .Lt (leM call (vr 6 e)) (vr 2 e))])) (blS [(exprS (fun e => (meM G call (vr 6 e) "append" [(vr 9 e)])))]) (blS []))])), (retS (fun e => (biM (f1 biSorted) [(vr 6 e)])))])
theorem q__law_list (k : Nat) (a0 a1 a2 : Val) (st : Store) : callF G 1000000 (k + 1) ("_law_list", none) [a0, a1, a2] st = endR st.length false (b__law_list (callF G 1000000 k) [some a0, some a1, some a2, none, none, none, none, none, none, none, none] st) := by kernel_rfl

def b__law_played (call : Key2 → List Val → M Val) : SM := (blS [(asgS 3 (fun e => (lcM false (rngM [(leM call (vr 1 e))]) [9] (tg1 9) noCond (fun e => (pure (.d (.int 1)))) e))), (asgS 4 (fun e => (liM true []))), (forS (fun e => (rngM [(vr 2 e)])) (tg1 5) (blS [(asgS 6 (fun e => (binM .Sub (pure (.d (.int 0))) (pure (.d (.int 1)))))), (asgS 7 (fun e => (pure (.d (.int 0))))), (forS (fun e => (rngM [(leM call (vr 0 e))])) (tg1 8) (blS [(asgS 10 (fun e => (biM (f1 biSum) [(lcM false (rngM [(leM call (vr 1 e))]) [9] (tg1 9) (fun e => (cmpT .Eq (subM (subM (vr 0 e) (vr 8 e)) (vr 9 e)) (subM (vr 1 e) (vr 9 e)))) (fun e => (subM (vr 3 e) (vr 9 e))) e)]))), (ifS (fun e => (cmpT .Gt (vr 10 e) (vr 6 e))) (blS [(asgS 6 (fun e => (vr 10 e))), (asgS 7 (fun e => (vr 8 e)))]) (blS []))])), (exprS (fun e => (meM G call (vr 4 e) "append" [(vr 7 e)]))), (asgS 3 (fun e => (lcM false (rngM [(leM call (vr 1 e))]) [9] (tg1 9) noCond (fun e => (ifM (cmpT .Eq (subM (subM (vr 0 e) (vr 7 e)) (vr 9 e)) (subM (vr 1 e) (vr 9 e))) (subM (vr 3 e) (vr 9 e)) (binM .Mult (pure (.d (.int 2))) (subM (vr 3 e) (vr 9 e))))) e)))])), (retS (fun e => (tuM [(biM (f1 biTuple) [(vr 4 e)]), (biM (f1 biTuple) [(vr 3 e)])])))])
theorem q__law_played (k : Nat) (a0 a1 a2 : Val) (st : Store) : callF G 1000000 (k + 1) ("_law_played", none) [a0, a1, a2] st = endR st.length false (b__law_played (callF G 1000000 k) [some a0, some a1, some a2, none, none, none, none, none, none, none, none] st) := by kernel_rfl

def b__law_wrong (call : Key2 → List Val → M Val) : SM := (blS [(retS (fun e => (biM (f1 biTuple) [(lcM false (rngM [(leM call (vr 1 e))]) [3] (tg1 3) noCond (fun e => (leM call (lcM false (genM (vr 2 e)) [4] (tg1 4) (fun e => (cmpT .NotEq (subM (subM (vr 0 e) (vr 4 e)) (vr 3 e)) (subM (vr 1 e) (vr 3 e)))) (fun e => (vr 4 e)) e))) e)])))])
theorem q__law_wrong (k : Nat) (a0 a1 a2 : Val) (st : Store) : callF G 1000000 (k + 1) ("_law_wrong", none) [a0, a1, a2] st = endR st.length false (b__law_wrong (callF G 1000000 k) [some a0, some a1, some a2, none, none] st) := by kernel_rfl

def b__law_voted (call : Key2 → List Val → M Val) : SM := (blS [(asgS 3 (fun e => (lcM false (rngM [(vr 1 e)]) [4] (tg1 4) noCond (fun e => (biM (f1 biSum) [(lcM false (genM (vr 2 e)) [6] (tg1 6) noCond (fun e => (subM (subM (vr 0 e) (vr 6 e)) (vr 4 e))) e)])) e))), (retS (fun e => (biM (f1 biTuple) [(lcM false (genM (vr 3 e)) [5] (tg1 5) noCond (fun e => (ifM (cmpT .Gt (binM .Mult (pure (.d (.int 2))) (vr 5 e)) (leM call (vr 2 e))) (pure (.d (.int 1))) (pure (.d (.int 0))))) e)])))])
theorem q__law_voted (k : Nat) (a0 a1 a2 : Val) (st : Store) : callF G 1000000 (k + 1) ("_law_voted", none) [a0, a1, a2] st = endR st.length false (b__law_voted (callF G 1000000 k) [some a0, some a1, some a2, none, none, none, none] st) := by kernel_rfl

def b__law_numbers (call : Key2 → List Val → M Val) : SM := (blS [(asgS 2 (fun e => (leM call (vr 1 e)))), (asgS 3 (fun e => (lcM true (rngM [(caM (call ("_law_draw", none)) [(vr 0 e), (pure (.d (.int 13)))])]) [7] (tg1 7) noCond (fun e => (caM (call ("_law_draw", none)) [(vr 0 e), (vr 2 e)])) e))), (ifS (fun e => (boT .Or [(cmpT .Gt (caM (call ("_law_draw", none)) [(vr 0 e), (pure (.d (.int 3)))]) (pure (.d (.int 0)))), (cmpT .Eq (leM call (subM (vr 1 e) (pure (.d (.int 0))))) (pure (.d (.int 0))))])) (blS [(retS (fun e => (biM (f1 biTuple) [(vr 3 e)])))]) (blS [])), (asgS 4 (fun e => (caM (call ("_law_draw", none)) [(vr 0 e), (leM call (subM (vr 1 e) (pure (.d (.int 0)))))]))), (asgS 5 (fun e => (lcM false (rngM [(vr 2 e)]) [7] (tg1 7) (fun e => (cmpT .Eq (subM (subM (vr 1 e) (vr 7 e)) (vr 4 e)) (pure (.d (.int 1))))) (fun e => (vr 7 e)) e))), (asgS 6 (fun e => (lcM false (rngM [(vr 2 e)]) [7] (tg1 7) (fun e => (cmpT .Eq (subM (subM (vr 1 e) (vr 7 e)) (vr 4 e)) (pure (.d (.int 0))))) (fun e => (vr 7 e)) e))), (ifS (fun e => (boT .Or [(cmpT .Eq (leM call (vr 5 e)) (pure (.d (.int 0)))), (cmpT .Eq (leM call (vr 6 e)) (pure (.d (.int 0))))])) (blS [(retS (fun e => (biM (f1 biTuple) [(vr 3 e)])))]) (blS [])), (asgS 3 (fun e => (liM true []))), (forS (fun e => (rngM [(binM .Add (pure (.d (.int 1))) (caM (call ("_law_draw", none)) [(vr 0 e), (pure (.d (.int 4)))]))])) (tg1 7) (blS [(exprS (fun e => (meM G call (vr 3 e) "append" [(subM (vr 5 e) (caM (call ("_law_draw", none)) [(vr 0 e), (leM call (vr 5 e))]))]))), (exprS (fun e => (meM G call (vr 3 e) "append" [(subM (vr 6 e) (caM (call ("_law_draw", none)) [(vr 0 e), (leM call (vr 6 e))]))])))])), (retS (fun e => (biM (f1 biTuple) [(cutM (vr 3 e) (poM (caM (call ("_law_draw", none)) [(vr 0 e), (pure (.d (.int 2)))])) (pure none))])))])
theorem q__law_numbers (k : Nat) (a0 a1 : Val) (st : Store) : callF G 1000000 (k + 1) ("_law_numbers", none) [a0, a1] st = endR st.length false (b__law_numbers (callF G 1000000 k) [some a0, some a1, none, none, none, none, none, none] st) := by kernel_rfl

def b__law_counted (call : Key2 → List Val → M Val) : SM := (blS [(ifS (fun e => (notT (trT (caM (call ("_law_same", none)) [(caM (call ("wrong_counts", none)) [(vr 0 e), (vr 2 e), (vr 3 e)]), (caM (call ("_law_wrong", none)) [(vr 1 e), (vr 2 e), (vr 3 e)])])))) (blS [(retS (fun e => (pure (.d (.bl false)))))]) (blS [])), (retS (fun e => (caM (call ("_law_same", none)) [(caM (call ("voted_by", none)) [(vr 0 e), (vr 3 e)]), (caM (call ("_law_voted", none)) [(vr 1 e), (leM call (vr 2 e)), (vr 3 e)])])))])
theorem q__law_counted (k : Nat) (a0 a1 a2 a3 : Val) (st : Store) : callF G 1000000 (k + 1) ("_law_counted", none) [a0, a1, a2, a3] st = endR st.length false (b__law_counted (callF G 1000000 k) [some a0, some a1, some a2, some a3] st) := by kernel_rfl

def b__law_all (call : Key2 → List Val → M Val) : SM := (blS [(asgS 1 (fun e => (caM (call ("_law_box", none)) [(vr 0 e)]))), (asgS 2 (fun e => (subM (liM false [(pure (.d (.int 0))), (pure (.d (.int 1))), (pure (.d (.int 2))), (pure (.d (.int 3))), (pure (.d (.int 3))), (pure (.d (.int 4))), (pure (.d (.int 4))), (pure (.d (.int 5))), (pure (.d (.int 5)))]) (caM (call ("_law_draw", none)) [(vr 1 e), (pure (.d (.int 9)))])))), (asgS 3 (fun e => (caM (call ("_law_list", none)) [(vr 1 e), (vr 2 e), (subM (liM false [(pure (.d (.int 8))), (pure (.d (.int 8))), (pure (.d (.int 4))), (pure (.d (.int 4))), (pure (.d (.int 6))), (pure (.d (.int 5))), (pure (.d (.int 3))), (pure (.d (.int 32)))]) (caM (call ("_law_draw", none)) [(vr 1 e), (pure (.d (.int 8)))]))]))), (asgS 4 (fun e => (caM (call ("_law_row", none)) [(caM (call ("_law_draw", none)) [(vr 1 e), (binM .LShift (pure (.d (.int 1))) (vr 2 e))]), (vr 2 e)]))), (asgS 5 (fun e => (subM (liM false [(pure (.d (.int 0))), (pure (.d (.int 1))), (pure (.d (.int 2))), (pure (.d (.int 3))), (pure (.d (.int 5))), (pure (.d (.int 6))), (pure (.d (.int 8))), (pure (.d (.int 13)))]) (caM (call ("_law_draw", none)) [(vr 1 e), (pure (.d (.int 8)))])))), (ifS (fun e => (boT .And [(cmpT .Lt (leM call (vr 3 e)) (pure (.d (.int 5)))), (cmpT .Eq (caM (call ("_law_draw", none)) [(vr 1 e), (pure (.d (.int 4)))]) (pure (.d (.int 0))))])) (blS [(asgS 5 (fun e => (subM (liM false [(pure (.d (.int 20))), (pure (.d (.int 64))), (pure (.d (.int 100))), (pure (.d (.int 200)))]) (caM (call ("_law_draw", none)) [(vr 1 e), (pure (.d (.int 4)))]))))]) (blS [])), (asgS 6 (fun e => (caM (makeM G call "Rules") [(vr 2 e), (vr 3 e)]))), (asgT [11, 12] (fun e => (caM (call ("_law_played", none)) [(vr 3 e), (vr 4 e), (vr 5 e)]))), (ifS (fun e => (boT .Or [(notT (trT (caM (call ("_law_same", none)) [(caM (call ("taken", none)) [(vr 6 e), (vr 4 e), (vr 5 e)]), (vr 11 e)]))), (notT (trT (caM (call ("_law_same", none)) [(caM (call ("weights_behind", none)) [(vr 6 e), (vr 4 e), (vr 5 e)]), (vr 12 e)])))])) (blS [(retS (fun e => (pure (.d (.bl false)))))]) (blS [])), (ifS (fun e => (notT (trT (caM (call ("_law_counted", none)) [(vr 6 e), (vr 3 e), (vr 4 e), (vr 11 e)])))) (blS [(retS (fun e => (pure (.d (.bl false)))))]) (blS [])), (ifS (fun e => (cmpT .NotEq (biM (f1 biTuple) [(lcM false (genM (caM (call ("_law_wrong", none)) [(vr 3 e), (vr 4 e), (vr 11 e)])) [13] (tg1 13) noCond (fun e => (binM .LShift (pure (.d (.int 1))) (vr 13 e))) e)]) (vr 12 e))) (blS [(retS (fun e => (pure (.d (.bl false)))))]) (blS [])), (asgS 7 (fun e => (caM (call ("_law_draw", none)) [(vr 1 e), (binM .Add (biM (f2 (bi2 fun i j => if j < i then j else i)) [(vr 5 e), (pure (.d (.int 9)))]) (pure (.d (.int 1))))]))), (asgS 8 (fun e => (caM (call ("_law_row", none)) [(caM (call ("_law_draw", none)) [(vr 1 e), (binM .LShift (pure (.d (.int 1))) (vr 2 e))]), (vr 2 e)]))), (ifS (fun e => (notT (trT (caM (call ("_law_same", none)) [(kwM (call ("taken", none)) ["rules", "row", "rounds"] ["rules", "row", "rounds"] [(vr 6 e), (vr 4 e), (vr 7 e)]), (cutM (vr 11 e) (pure none) (poM (vr 7 e)))])))) (blS [(retS (fun e => (pure (.d (.bl false)))))]) (blS [])), (ifS (fun e => (notT (trT (caM (call ("_law_same", none)) [(caM (call ("taken", none)) [(vr 6 e), (vr 8 e), (vr 7 e)]), (subM (caM (call ("_law_played", none)) [(vr 3 e), (vr 8 e), (vr 7 e)]) (pure (.d (.int 0))))])))) (blS [(retS (fun e => (pure (.d (.bl false)))))]) (blS [])), (ifS (fun e => (notT (trT (caM (call ("_law_same", none)) [(kwM (call ("weights_behind", none)) ["rounds", "row", "rules"] ["rules", "row", "rounds"] [(vr 7 e), (vr 4 e), (vr 6 e)]), (subM (caM (call ("_law_played", none)) [(vr 3 e), (vr 4 e), (vr 7 e)]) (pure (.d (.int 1))))])))) (blS [(retS (fun e => (pure (.d (.bl false)))))]) (blS [])), (forS (fun e => (rngM [(pure (.d (.int 3)))])) (tg1 9) (blS [(ifS (fun e => (notT (trT (caM (call ("_law_counted", none)) [(vr 6 e), (vr 3 e), (vr 8 e), (caM (call ("_law_numbers", none)) [(vr 1 e), (vr 3 e)])])))) (blS [(retS (fun e => (pure (.d (.bl false)))))]) (blS []))])), (asgS 10 (fun e => (caM (call ("_law_numbers", none)) [(vr 1 e), (vr 3 e)]))), (ifS (fun e => (notT (trT (caM (call ("_law_same", none)) [(kwM (call ("voted_by", none)) ["numbers", "rules"] ["rules", "numbers"] [(vr 10 e), (vr 6 e)]), (caM (call ("_law_voted", none)) [(vr 3 e), (vr 2 e), (vr 10 e)])])))) (blS [(retS (fun e => (pure (.d (.bl false)))))]) (blS [])), (retS (fun e => (caM (call ("_law_same", none)) [(kwM (call ("wrong_counts", none)) ["numbers", "rules", "row"] ["rules", "row", "numbers"] [(vr 10 e), (vr 6 e), (vr 4 e)]), (caM (call ("_law_wrong", none)) [(vr 3 e), (vr 4 e), (vr 10 e)])])))])
theorem q__law_all (k : Nat) (a0 : Val) (st : Store) : callF G 1000000 (k + 1) ("_law_all", none) [a0] st = endR st.length false (b__law_all (callF G 1000000 k) [some a0, none, none, none, none, none, none, none, none, none, none, none, none, none] st) := by kernel_rfl

def b_law (call : Key2 → List Val → M Val) : SM := (blS [(tryS (blS [(retS (fun e => (caM (call ("_law_all", none)) [(vr 0 e)])))]))])
theorem q_law (k : Nat) (a0 : Val) (st : Store) : callF G 1000000 (k + 1) ("law", none) [a0] st = endR st.length false (b_law (callF G 1000000 k) [some a0] st) := by kernel_rfl

end K97

set_option maxHeartbeats 4000000
namespace K97
open PySem PySem.Spec PyProof.Rows L2 IP
theorem fldR_size (p : Int × List (List Int)) (st : Store) : field [("Rules", "size"), ("Rules", "rows")] (.d (eR p)) "size" st = some (.d (.int p.1)) := by kernel_rfl
theorem fldR_rows (p : Int × List (List Int)) (st : Store) : field [("Rules", "size"), ("Rules", "rows")] (.d (eR p)) "rows" st = some (.d (eT (eT DV.int) p.2)) := by kernel_rfl
theorem s__law_draw (k : Nat) (b : GBox) (l : Int) (r : Store) (hc : ∀ b, Closed (bx b :: r)) (hl : okLim l) : callF G 1000000 (k + 1) ("_law_draw", none) [.r 0, .d (.int l)] (bx b :: r) = .ok (.d (.int (drawV b l).1)) (bx (drawV b l).2 :: r) := by
  refine (q__law_draw k (.r 0) (.d (.int l)) _).trans ?_
  exact fn_end (draw_body (callF G 1000000 k) b l hl r) rfl rfl (hc _)
theorem same_all : ∀ (n k : Nat) (x : DV) (st : Store), Closed st → gd n x → callF G 1000000 (k + n + 1) ("_law_same", none) [.d x, .d x] st = .ok (.d (.bl true)) st := by
  intro n
  induction n with
  | zero =>
    intro k x st hc h
    refine (q__law_same _ _ _ _).trans ?_
    exact fn_end (same_ok (n := 0) x h fun m x e _ => absurd e (by omega)) rfl rfl hc
  | succ n ih =>
    intro k x st hc h
    refine (q__law_same _ _ _ _).trans ?_
    refine fn_end (same_ok (n := n + 1) x h fun m x e hx => ?_) rfl rfl hc
    cases e
    exact ih k x st hc hx
theorem s__law_box (k : Nat) (ns : List Int) (hn : ns.length ≤ 1000) : callF G 1000000 (k + 1) ("_law_box", none) [.scr ns] [] = .ok (.r 0) [bx (boxV ns hn)] := by
  refine (q__law_box k _ _).trans ?_
  have h1 : Ev (liM true [(lcM false (genM (vr 0 [some (Val.scr ns), none])) [1] (tg1 1) noCond (fun e => (biM (f1 biInt) [(vr 1 e)])) [some (Val.scr ns), none]), (pure (.d (.int 0))), (pure (.d (.int 0))), (pure (.d (.int 0)))]) [] (.r 0) [bx (boxV ns hn)] := by
    refine E_licE (L_cons (E_lc0 (en := DV.int) (f := fun i : Int => Val.d (.int i)) (e := fun i => [some (Val.scr ns), some (Val.d (.int i))]) (g := fun i => i) (xs := ns) (Ev_bind (E_vr rfl) rfl) (Nat.le_trans hn (by decide)) (fun _ => rfl) fun i _ => E_bi (L_cons (E_vr rfl) L_nil) int_i) (L_cons E_pu (L_cons E_pu (L_cons E_pu L_nil)))) rfl ?_
    rw [List.map_id']
    rfl
  have e0 : b__law_box (callF G 1000000 k) [some (Val.scr ns), none] [] = .ok (.ret (.r 0)) [some (Val.scr ns), none] [bx (boxV ns hn)] := retS_bl (e := fun e => (liM true [(lcM false (genM (vr 0 e)) [1] (tg1 1) noCond (fun e => (biM (f1 biInt) [(vr 1 e)])) e), (pure (.d (.int 0))), (pure (.d (.int 0))), (pure (.d (.int 0)))])) (ss := []) h1
  rw [e0]
  rfl
theorem s__law_same (k : Nat) (x y : DV) (st : Store) (hc : Closed st) (h : okSame x y) : callF G 1000000 (k + 7) ("_law_same", none) [.d x, .d y] st = .ok (.d (.bl true)) st := by
  obtain ⟨rfl, h⟩ := h
  exact same_all 6 k x st hc h
theorem hm_look_at_row : ¬(("look_at_row" : Str) ∈ (["size", "rows"] : List Str) ∨ (G.find ("Rules", some "look_at_row")).isNone = true) := by decide +kernel
def v__law_row (a0 : Int) (a1 : Int) : (List Int) := ((irange (0 : Int) a1).map fun (y1 : Int) => (Builtin.bitAnd (a0 / 2 ^ (y1).toNat) (1 : Int)))
def ok__law_row (a0 : Int) (a1 : Int) : Prop := (((small62 a1 = true)) ∧ ((irange (0 : Int) a1).length ≤ lim) ∧ (∀ y1 ∈ (irange (0 : Int) a1), (((0 ≤ y1)))))
theorem s__law_row (k : Nat) (a0 : Int) (a1 : Int) (st : Store) (hc : Closed st) (h : ok__law_row a0 a1) : callF G 1000000 (k + 1) ("_law_row", none) [.d (DV.int a0), .d (DV.int a1)] (st) = .ok (.d ((eT DV.int) (v__law_row a0 a1))) (st) := by
  refine (q__law_row (k + 0) (.d (DV.int a0)) (.d (DV.int a1)) _).trans ?_
  refine fn_end (rv := fun w => (.d ((eT DV.int) w), st)) (w := v__law_row a0 a1) ?_ rfl rfl hc
  show RetS _ (b__law_row (callF G 1000000 (k + 0)) [some (Val.d (DV.int a0)), some (Val.d (DV.int a1)), none] (st)) _
  unfold ok__law_row at h
  unfold v__law_row b__law_row
  exact Q_ret0 (E_bi (L_cons (E_lc0 (en := DV.int) (f := fun (y1 : Int) => Val.d (DV.int y1)) (e := fun (y1 : Int) => ([some (Val.d (DV.int a0)), some (Val.d (DV.int a1)), some (Val.d (DV.int y1))] : IP.Env)) (g := fun (y1 : Int) => (Builtin.bitAnd (a0 / 2 ^ (y1).toNat) (1 : Int))) (W_rng1 (E_vr rfl) h.1) h.2.1 (fun _ => rfl) (fun y1 hmy1 => (E_bin (E_bin (E_vr rfl) (E_vr rfl) (bin_shr (h.2.2 y1 hmy1))) E_pu rfl))) L_nil) tuple_L)
def v__law_list (b : GBox) (a1 : Int) (a2 : Int) : (List (List Int)) × GBox := (lt ((drawV b (7 : Int)).1 : Int) fun (x1 : Int) => (lt (drawV b (7 : Int)).2 fun (b2 : GBox) => (lt ((mapS (fun (y3 : Int) (b4 : GBox) => ((drawV b4 ((1 : Int) * 2 ^ (a1).toNat)).1, (drawV b4 ((1 : Int) * 2 ^ (a1).toNat)).2)) (irange (0 : Int) ((1 : Int) + (drawV b2 a2).1)) (drawV b2 a2).2).1 : (List Int)) fun (x5 : (List Int)) => (lt (mapS (fun (y3 : Int) (b4 : GBox) => ((drawV b4 ((1 : Int) * 2 ^ (a1).toNat)).1, (drawV b4 ((1 : Int) * 2 ^ (a1).toNat)).2)) (irange (0 : Int) ((1 : Int) + (drawV b2 a2).1)) (drawV b2 a2).2).2 fun (b6 : GBox) => (lt ((if (decide (x1 = (0 : Int))) then (lt (((irange (0 : Int) ((1 : Int) * 2 ^ (a1).toNat)).map fun (y12 : Int) => y12) : (List Int)) fun (x14 : (List Int)) => (x14)) else (x5)) : ((List Int))) fun (s10 : ((List Int))) => (lt ((if (decide (x1 = (1 : Int))) then (lt ((drawV b6 (a1 + (1 : Int))).1 : Int) fun (x24 : Int) => (lt (drawV b6 (a1 + (1 : Int))).2 fun (b25 : GBox) => (lt ((((irange (0 : Int) ((1 : Int) * 2 ^ (a1).toNat)).filter fun (y26 : Int) => (decide ((v__law_row y26 a1).sum = x24))).map fun (y26 : Int) => y26) : (List Int)) fun (x28 : (List Int)) => (x28, b25)))) else (s10, b6)) : ((List Int) × GBox)) fun (s22 : ((List Int) × GBox)) => (lt ((if (decide (x1 = (2 : Int))) then (lt ((((irange (0 : Int) a1).map fun (y36 : Int) => (Builtin.bitXor (ix s22.1 (0 : Int)) ((1 : Int) * 2 ^ (y36).toNat))) ++ (slc s22.1 none (some (2 : Int)))) : (List Int)) fun (x38 : (List Int)) => (x38)) else (s22.1)) : ((List Int))) fun (s34 : ((List Int))) => (lt ((drawV s22.2 (s34.length : Int)).1 : Int) fun (x39 : Int) => (lt (drawV s22.2 (s34.length : Int)).2 fun (b40 : GBox) => (lt (([] : List (List Int)) : List (List Int)) fun c41 => (lt ((List.foldl (fun (s49 : ((List (List Int)))) (y42 : Int) => (lt ((v__law_row (ix s34 ((x39 + y42) % (s34.length : Int))) a1) : (List Int)) fun (x51 : (List Int)) => (if ((!decide (x51 ∈ s49)) && (decide ((s49.length : Int) < a2))) then (lt ((s49 ++ [x51]) : List (List Int)) fun c53 => (c53)) else (s49)))) (c41) (irange (0 : Int) (s34.length : Int))) : ((List (List Int)))) fun (s49 : ((List (List Int)))) => ((sortT s49), b40))))))))))))
def ok__law_list (b : GBox) (a1 : Int) (a2 : Int) : Prop := (lt ((drawV b (7 : Int)).1 : Int) fun (x1 : Int) => lt (drawV b (7 : Int)).2 fun (b2 : GBox) => (((((okLim a2))) ∧ (small62 ((1 : Int) + (drawV b2 a2).1) = true)) ∧ ((irange (0 : Int) ((1 : Int) + (drawV b2 a2).1)).length ≤ lim) ∧ (okS (fun (y3 : Int) (b4 : GBox) => ((drawV b4 ((1 : Int) * 2 ^ (a1).toNat)).1, (drawV b4 ((1 : Int) * 2 ^ (a1).toNat)).2)) (fun (y3 : Int) (b4 : GBox) => ((PowOkB (1 : Int) a1 = true)) ∧ (okLim ((1 : Int) * 2 ^ (a1).toNat))) (irange (0 : Int) ((1 : Int) + (drawV b2 a2).1)) (drawV b2 a2).2)) ∧ (lt ((mapS (fun (y3 : Int) (b4 : GBox) => ((drawV b4 ((1 : Int) * 2 ^ (a1).toNat)).1, (drawV b4 ((1 : Int) * 2 ^ (a1).toNat)).2)) (irange (0 : Int) ((1 : Int) + (drawV b2 a2).1)) (drawV b2 a2).2).1 : (List Int)) fun (x5 : (List Int)) => lt (mapS (fun (y3 : Int) (b4 : GBox) => ((drawV b4 ((1 : Int) * 2 ^ (a1).toNat)).1, (drawV b4 ((1 : Int) * 2 ^ (a1).toNat)).2)) (irange (0 : Int) ((1 : Int) + (drawV b2 a2).1)) (drawV b2 a2).2).2 fun (b6 : GBox) => ((decide (x1 = (0 : Int))) = true → (((PowOkB (1 : Int) a1 = true)) ∧ (small62 ((1 : Int) * 2 ^ (a1).toNat) = true)) ∧ ((irange (0 : Int) ((1 : Int) * 2 ^ (a1).toNat)).length ≤ lim)) ∧ (lt ((if (decide (x1 = (0 : Int))) then (lt (((irange (0 : Int) ((1 : Int) * 2 ^ (a1).toNat)).map fun (y12 : Int) => y12) : (List Int)) fun (x14 : (List Int)) => (x14)) else (x5)) : ((List Int))) fun (s10 : ((List Int))) => ((decide (x1 = (1 : Int))) = true → ((okLim (a1 + (1 : Int)))) ∧ (lt ((drawV b6 (a1 + (1 : Int))).1 : Int) fun (x24 : Int) => lt (drawV b6 (a1 + (1 : Int))).2 fun (b25 : GBox) => (((PowOkB (1 : Int) a1 = true)) ∧ (small62 ((1 : Int) * 2 ^ (a1).toNat) = true)) ∧ ((irange (0 : Int) ((1 : Int) * 2 ^ (a1).toNat)).length ≤ lim) ∧ (∀ y26 ∈ (irange (0 : Int) ((1 : Int) * 2 ^ (a1).toNat)), ((((ok__law_row y26 a1))))))) ∧ (lt ((if (decide (x1 = (1 : Int))) then (lt ((drawV b6 (a1 + (1 : Int))).1 : Int) fun (x24 : Int) => (lt (drawV b6 (a1 + (1 : Int))).2 fun (b25 : GBox) => (lt ((((irange (0 : Int) ((1 : Int) * 2 ^ (a1).toNat)).filter fun (y26 : Int) => (decide ((v__law_row y26 a1).sum = x24))).map fun (y26 : Int) => y26) : (List Int)) fun (x28 : (List Int)) => (x28, b25)))) else (s10, b6)) : ((List Int) × GBox)) fun (s22 : ((List Int) × GBox)) => ((decide (x1 = (2 : Int))) = true → (((small62 a1 = true)) ∧ ((irange (0 : Int) a1).length ≤ lim) ∧ (∀ y36 ∈ (irange (0 : Int) a1), (((IP.inR s22.1.length (0 : Int))) ∧ ((PowOkB (1 : Int) y36 = true))))) ∧ (((irange (0 : Int) a1).map fun (y36 : Int) => (Builtin.bitXor (ix s22.1 (0 : Int)) ((1 : Int) * 2 ^ (y36).toNat))).length + (slc s22.1 none (some (2 : Int))).length ≤ lim)) ∧ (lt ((if (decide (x1 = (2 : Int))) then (lt ((((irange (0 : Int) a1).map fun (y36 : Int) => (Builtin.bitXor (ix s22.1 (0 : Int)) ((1 : Int) * 2 ^ (y36).toNat))) ++ (slc s22.1 none (some (2 : Int)))) : (List Int)) fun (x38 : (List Int)) => (x38)) else (s22.1)) : ((List Int))) fun (s34 : ((List Int))) => ((okLim (s34.length : Int))) ∧ (lt ((drawV s22.2 (s34.length : Int)).1 : Int) fun (x39 : Int) => lt (drawV s22.2 (s34.length : Int)).2 fun (b40 : GBox) => (lt (([] : List (List Int)) : List (List Int)) fun c41 => ((small62 (s34.length : Int) = true)) ∧ (okFor (fun (s49 : ((List (List Int)))) (y42 : Int) => ((((0 < (s34.length : Int))) ∧ (IP.inR s34.length ((x39 + y42) % (s34.length : Int)))) ∧ (ok__law_row (ix s34 ((x39 + y42) % (s34.length : Int))) a1)) ∧ (lt ((v__law_row (ix s34 ((x39 + y42) % (s34.length : Int))) a1) : (List Int)) fun (x51 : (List Int)) => (((!decide (x51 ∈ s49)) && (decide ((s49.length : Int) < a2))) = true → ((s49.length < lim))))) (fun (s49 : ((List (List Int)))) (y42 : Int) => (lt ((v__law_row (ix s34 ((x39 + y42) % (s34.length : Int))) a1) : (List Int)) fun (x51 : (List Int)) => (if ((!decide (x51 ∈ s49)) && (decide ((s49.length : Int) < a2))) then (lt ((s49 ++ [x51]) : List (List Int)) fun c53 => (c53)) else (s49)))) (c41) (irange (0 : Int) (s34.length : Int))) ∧ (lt ((List.foldl (fun (s49 : ((List (List Int)))) (y42 : Int) => (lt ((v__law_row (ix s34 ((x39 + y42) % (s34.length : Int))) a1) : (List Int)) fun (x51 : (List Int)) => (if ((!decide (x51 ∈ s49)) && (decide ((s49.length : Int) < a2))) then (lt ((s49 ++ [x51]) : List (List Int)) fun c53 => (c53)) else (s49)))) (c41) (irange (0 : Int) (s34.length : Int))) : ((List (List Int)))) fun (s49 : ((List (List Int)))) => (okSort s49)))))))))
theorem s__law_list (k : Nat) (b : GBox) (a1 : Int) (a2 : Int) (r : Store) (hc : ∀ b, Closed (bx b :: r)) (h : ok__law_list b a1 a2) : callF G 1000000 (k + 2) ("_law_list", none) [.r 0, .d (DV.int a1), .d (DV.int a2)] (bx b :: r) = .ok (.d ((eL (eT DV.int)) (v__law_list b a1 a2).1)) (bx (v__law_list b a1 a2).2 :: r) := by
  refine (q__law_list (k + 1) (.r 0) (.d (DV.int a1)) (.d (DV.int a2)) _).trans ?_
  refine fn_end (rv := fun w => (.d ((eL (eT DV.int)) w.1), bx w.2 :: r)) (w := v__law_list b a1 a2) ?_ rfl rfl (hc _)
  show RetS _ (b__law_list (callF G 1000000 (k + 1)) [some (Val.r 0), some (Val.d (DV.int a1)), some (Val.d (DV.int a2)), none, none, none, none, none, none, none, none] (bx b :: r)) _
  unfold ok__law_list at h
  unfold v__law_list b__law_list
  refine S_asg (en := DV.int) (env' := fun (x1 : Int) => [some (Val.r 0), some (Val.d (DV.int a1)), some (Val.d (DV.int a2)), some (Val.d (DV.int x1)), none, none, none, none, none, none, none]) (E_ca (L_cons (E_vr rfl) (L_cons E_pu L_nil)) (s__law_draw (k + (0)) _ _ _ hc (okLim_lit (by decide) (by decide)))) (fun _ => rfl) h ?_
  intro x1 h71
  refine S_gen (S := (fun (b2 : GBox) => (bx b2 :: r : IP.Store))) h71 ?_
  intro b2 h70
  refine S_asg (en := (eL DV.int)) (env' := fun (x5 : (List Int)) => [some (Val.r 0), some (Val.d (DV.int a1)), some (Val.d (DV.int a2)), some (Val.d (DV.int x1)), some (Val.d ((eL DV.int) x5)), none, none, none, none, none, none]) (E_lcS (en := DV.int) (S := (fun (b : GBox) => bx b :: r)) (f := fun (y3 : Int) => Val.d (DV.int y3)) (e := fun (y3 : Int) => ([some (Val.r 0), some (Val.d (DV.int a1)), some (Val.d (DV.int a2)), some (Val.d (DV.int x1)), none, none, none, some (Val.d (DV.int y3)), none, none, none] : IP.Env)) (g := (fun (y3 : Int) (b4 : GBox) => ((drawV b4 ((1 : Int) * 2 ^ (a1).toNat)).1, (drawV b4 ((1 : Int) * 2 ^ (a1).toNat)).2))) (ok := (fun (y3 : Int) (b4 : GBox) => ((PowOkB (1 : Int) a1 = true)) ∧ (okLim ((1 : Int) * 2 ^ (a1).toNat)))) (W_rng1 (E_bin E_pu (E_ca (L_cons (E_vr rfl) (L_cons (E_vr rfl) L_nil)) (s__law_draw (k + (0)) _ _ _ hc h70.1.1.1)) rfl) h70.1.1.2) h70.1.2.1 (fun _ => rfl) (fun y3 hmy3 b4 hky3 => (E_ca (L_cons (E_vr rfl) (L_cons (E_bin E_pu (E_vr rfl) (bin_shl hky3.1)) L_nil)) (s__law_draw (k + (0)) _ _ _ hc hky3.2))) h70.1.2.2) (fun _ => rfl) h70.2 ?_
  intro x5 h69
  refine S_gen (S := (fun (b6 : GBox) => (bx b6 :: r : IP.Store))) h69 ?_
  intro b6 h68
  refine S_ifJ (s1 := bx b6 :: r) (J := Unit) (E := (fun (s10 : ((List Int))) (j11 : Unit) => ([some (Val.r 0), some (Val.d (DV.int a1)), some (Val.d (DV.int a2)), some (Val.d (DV.int x1)), some (Val.d ((eL DV.int) s10)), none, none, none, none, none, none] : IP.Env))) (S := (fun (s10 : ((List Int))) => (bx b6 :: r : IP.Store))) (T_cmp (E_vr rfl) E_pu rfl) (fun h67 => ?_) (fun h67 => ?_) h68.2 ?_
  · have h67k := h68.1 h67
    refine S_asg0 (en := (eL DV.int)) (env' := fun (x14 : (List Int)) => [some (Val.r 0), some (Val.d (DV.int a1)), some (Val.d (DV.int a2)), some (Val.d (DV.int x1)), some (Val.d ((eL DV.int) x14)), none, none, none, none, none, none]) (E_lc0 (en := DV.int) (f := fun (y12 : Int) => Val.d (DV.int y12)) (e := fun (y12 : Int) => ([some (Val.r 0), some (Val.d (DV.int a1)), some (Val.d (DV.int a2)), some (Val.d (DV.int x1)), some (Val.d ((eL DV.int) x5)), none, none, none, none, none, some (Val.d (DV.int y12))] : IP.Env)) (g := fun (y12 : Int) => y12) (W_rng1 (E_bin E_pu (E_vr rfl) (bin_shl h67k.1.1)) h67k.1.2) h67k.2 (fun _ => rfl) (fun y12 hmy12 => (E_vr rfl))) (fun _ => rfl) ?_
    intro x14
    exact Q_fall () rfl rfl
  · exact Q_fall () rfl rfl
  intro s10 j11 h66
  refine S_ifJ (s1 := bx b6 :: r) (J := (Option Val)) (E := (fun (s22 : ((List Int) × GBox)) (j23 : (Option Val)) => ([some (Val.r 0), some (Val.d (DV.int a1)), some (Val.d (DV.int a2)), some (Val.d (DV.int x1)), some (Val.d ((eL DV.int) s22.1)), none, none, none, j23, none, none] : IP.Env))) (S := (fun (s22 : ((List Int) × GBox)) => (bx s22.2 :: r : IP.Store))) (T_cmp (E_vr rfl) E_pu rfl) (fun h65 => ?_) (fun h65 => ?_) h66.2 ?_
  · have h65k := h66.1 h65
    refine S_asg (en := DV.int) (env' := fun (x24 : Int) => [some (Val.r 0), some (Val.d (DV.int a1)), some (Val.d (DV.int a2)), some (Val.d (DV.int x1)), some (Val.d ((eL DV.int) s10)), none, none, none, some (Val.d (DV.int x24)), none, none]) (E_ca (L_cons (E_vr rfl) (L_cons (E_bin (E_vr rfl) E_pu rfl) L_nil)) (s__law_draw (k + (0)) _ _ _ hc h65k.1)) (fun _ => rfl) h65k.2 ?_
    intro x24 h30
    refine S_gen (S := (fun (b25 : GBox) => (bx b25 :: r : IP.Store))) h30 ?_
    intro b25 h29
    refine S_asg0 (en := (eL DV.int)) (env' := fun (x28 : (List Int)) => [some (Val.r 0), some (Val.d (DV.int a1)), some (Val.d (DV.int a2)), some (Val.d (DV.int x1)), some (Val.d ((eL DV.int) x28)), none, none, none, some (Val.d (DV.int x24)), none, none]) (E_lc (en := DV.int) (f := fun (y26 : Int) => Val.d (DV.int y26)) (e := fun (y26 : Int) => ([some (Val.r 0), some (Val.d (DV.int a1)), some (Val.d (DV.int a2)), some (Val.d (DV.int x1)), some (Val.d ((eL DV.int) s10)), none, none, none, some (Val.d (DV.int x24)), none, some (Val.d (DV.int y26))] : IP.Env)) (p := fun (y26 : Int) => (decide ((v__law_row y26 a1).sum = x24))) (g := fun (y26 : Int) => y26) (W_rng1 (E_bin E_pu (E_vr rfl) (bin_shl h29.1.1)) h29.1.2) h29.2.1 (fun _ => rfl) (fun y26 hmy26 => (T_cmp (E_bi (L_cons (E_ca (L_cons (E_vr rfl) (L_cons (E_vr rfl) L_nil)) (s__law_row (k + (0)) _ _ _ (hc _) (h29.2.2 y26 hmy26))) L_nil) sum_T) (E_vr rfl) rfl)) (fun y26 hmy26 hpy26 => (E_vr rfl))) (fun _ => rfl) ?_
    intro x28
    exact Q_fall ((some (Val.d (DV.int x24)))) rfl rfl
  · exact Q_fall ((none)) rfl rfl
  intro s22 j23 h64
  refine S_ifJ (s1 := bx s22.2 :: r) (J := Unit) (E := (fun (s34 : ((List Int))) (j35 : Unit) => ([some (Val.r 0), some (Val.d (DV.int a1)), some (Val.d (DV.int a2)), some (Val.d (DV.int x1)), some (Val.d ((eL DV.int) s34)), none, none, none, j23, none, none] : IP.Env))) (S := (fun (s34 : ((List Int))) => (bx s22.2 :: r : IP.Store))) (T_cmp (E_vr rfl) E_pu rfl) (fun h63 => ?_) (fun h63 => ?_) h64.2 ?_
  · have h63k := h64.1 h63
    refine S_asg0 (en := (eL DV.int)) (env' := fun (x38 : (List Int)) => [some (Val.r 0), some (Val.d (DV.int a1)), some (Val.d (DV.int a2)), some (Val.d (DV.int x1)), some (Val.d ((eL DV.int) x38)), none, none, none, j23, none, none]) (E_bin (E_lc0 (en := DV.int) (f := fun (y36 : Int) => Val.d (DV.int y36)) (e := fun (y36 : Int) => ([some (Val.r 0), some (Val.d (DV.int a1)), some (Val.d (DV.int a2)), some (Val.d (DV.int x1)), some (Val.d ((eL DV.int) s22.1)), none, none, some (Val.d (DV.int y36)), j23, none, none] : IP.Env)) (g := fun (y36 : Int) => (Builtin.bitXor (ix s22.1 (0 : Int)) ((1 : Int) * 2 ^ (y36).toNat))) (W_rng1 (E_vr rfl) h63k.1.1) h63k.1.2.1 (fun _ => rfl) (fun y36 hmy36 => (E_bin (E_sub (E_vr rfl) E_pu (item_L (h63k.1.2.2 y36 hmy36).1)) (E_bin E_pu (E_vr rfl) (bin_shl (h63k.1.2.2 y36 hmy36).2)) rfl))) (E_cut (E_vr rfl) O_none (O_some E_pu) cut_L) (bin_catL h63k.2)) (fun _ => rfl) ?_
    intro x38
    exact Q_fall () rfl rfl
  · exact Q_fall () rfl rfl
  intro s34 j35 h62
  refine S_asg (en := DV.int) (env' := fun (x39 : Int) => [some (Val.r 0), some (Val.d (DV.int a1)), some (Val.d (DV.int a2)), some (Val.d (DV.int x1)), some (Val.d ((eL DV.int) s34)), some (Val.d (DV.int x39)), none, none, j23, none, none]) (E_ca (L_cons (E_vr rfl) (L_cons (E_len (E_vr rfl) rfl len_L) L_nil)) (s__law_draw (k + (0)) _ _ _ hc h62.1)) (fun _ => rfl) h62.2 ?_
  intro x39 h61
  refine S_gen (S := (fun (b40 : GBox) => (bx b40 :: r : IP.Store))) h61 ?_
  intro b40 h60
  refine S_asgv (env' := [some (Val.r 0), some (Val.d (DV.int a1)), some (Val.d (DV.int a2)), some (Val.d (DV.int x1)), some (Val.d ((eL DV.int) s34)), some (Val.d (DV.int x39)), some (Val.r (r.length + 1 + 0)), none, j23, none, none]) (E_licE L_nil rfl rfl) rfl ?_
  refine S_gen (S := (fun (c41 : List (List Int)) => (bx b40 :: (r ++ [cL (eT DV.int) c41]) : IP.Store))) h60 ?_
  intro c41 h59
  refine S_for (J := (Option Val × Option Val)) (E := (fun (s49 : ((List (List Int)))) (j50 : (Option Val × Option Val)) => ([some (Val.r 0), some (Val.d (DV.int a1)), some (Val.d (DV.int a2)), some (Val.d (DV.int x1)), some (Val.d ((eL DV.int) s34)), some (Val.d (DV.int x39)), some (Val.r (r.length + 1 + 0)), j50.2, j23, j50.1, none] : IP.Env))) (S := (fun (s49 : ((List (List Int)))) => (bx b40 :: (r ++ [cL (eT DV.int) s49]) : IP.Store))) (f := fun (y42 : Int) => Val.d (DV.int y42)) (stp := (fun (s49 : ((List (List Int)))) (y42 : Int) => (lt ((v__law_row (ix s34 ((x39 + y42) % (s34.length : Int))) a1) : (List Int)) fun (x51 : (List Int)) => (if ((!decide (x51 ∈ s49)) && (decide ((s49.length : Int) < a2))) then (lt ((s49 ++ [x51]) : List (List Int)) fun c53 => (c53)) else (s49))))) (ok := (fun (s49 : ((List (List Int)))) (y42 : Int) => ((((0 < (s34.length : Int))) ∧ (IP.inR s34.length ((x39 + y42) % (s34.length : Int)))) ∧ (ok__law_row (ix s34 ((x39 + y42) % (s34.length : Int))) a1)) ∧ (lt ((v__law_row (ix s34 ((x39 + y42) % (s34.length : Int))) a1) : (List Int)) fun (x51 : (List Int)) => (((!decide (x51 ∈ s49)) && (decide ((s49.length : Int) < a2))) = true → ((s49.length < lim)))))) (okR := fun (s49 : ((List (List Int)))) => (okSort s49)) ((none), (none)) (W_rng1 (E_len (E_vr rfl) rfl len_L) h59.1) rfl h59.2.1 ?_ h59.2.2 ?_
  · intro s49 y42 j50 h57
    refine ⟨[some (Val.r 0), some (Val.d (DV.int a1)), some (Val.d (DV.int a2)), some (Val.d (DV.int x1)), some (Val.d ((eL DV.int) s34)), some (Val.d (DV.int x39)), some (Val.r (r.length + 1 + 0)), some (Val.d (DV.int y42)), j23, j50.1, none], rfl, ?_⟩
    refine S_asg (en := (eT DV.int)) (env' := fun (x51 : (List Int)) => [some (Val.r 0), some (Val.d (DV.int a1)), some (Val.d (DV.int a2)), some (Val.d (DV.int x1)), some (Val.d ((eL DV.int) s34)), some (Val.d (DV.int x39)), some (Val.r (r.length + 1 + 0)), some (Val.d (DV.int y42)), j23, some (Val.d ((eT DV.int) x51)), none]) (E_ca (L_cons (E_sub (E_vr rfl) (E_bin (E_bi (L_cons (E_bin (E_vr rfl) (E_vr rfl) rfl) L_nil) int_i) (E_len (E_vr rfl) rfl len_L) (bin_mod h57.1.1.1)) (item_L h57.1.1.2)) (L_cons (E_vr rfl) L_nil)) (s__law_row (k + (0)) _ _ _ (closedB hc (by simp [low_cL]) _) h57.1.2)) (fun _ => rfl) h57.2 ?_
    intro x51 h56
    refine S_if (s1 := bx b40 :: (r ++ [cL (eT DV.int) s49])) (T_and (T_cmp (E_vr rfl) (E_vr rfl) (cmp_ninC (PyE.tup PyE.int) (by decide) (getB rfl))) (fun _ => rfl) (fun hc52 => (T_bo1 (T_cmp (E_len (E_vr rfl) (ins_C (getB rfl)) (len_C (getB rfl))) (E_vr rfl) rfl)))) (fun h55 => ?_) (fun h55 => ?_)
    · have h55k := h56 h55
      refine S_expr (E_meAC (en := (eT DV.int)) (E_vr rfl) (getB rfl) (L_cons (E_vr rfl) L_nil) (getB rfl) h55k (setB rfl)) ?_
      refine S_gen0 (S := (fun (c53 : List (List Int)) => (bx b40 :: (r ++ [cL (eT DV.int) c53]) : IP.Store))) ?_
      intro c53
      exact Q_fallC ((some (Val.d ((eT DV.int) x51))), (some (Val.d (DV.int y42)))) rfl rfl
    · exact Q_fallC ((some (Val.d ((eT DV.int) x51))), (some (Val.d (DV.int y42)))) rfl rfl
  intro s49 j50 h58
  exact Q_retL (L := [cL (eT DV.int) s49]) (E_bi (L_cons (E_vr rfl) L_nil) (sorted_C (getB rfl) h58))
def v_is_integer (a0 : Int) : Bool := (true && (!false))
theorem s_is_integer (k : Nat) (a0 : Int) (st : Store) (hc : Closed st) : callF G 1000000 (k + 1) ("is_integer", none) [.d (DV.int a0)] (st) = .ok (.d (DV.bl (v_is_integer a0))) (st) := by
  refine (q_is_integer (k + 0) (.d (DV.int a0)) _).trans ?_
  refine fn_end (rv := fun w => (.d (DV.bl w), st)) (w := v_is_integer a0) ?_ rfl rfl hc
  show RetS _ (b_is_integer (callF G 1000000 (k + 0)) [some (Val.d (DV.int a0))] (st)) _
  unfold v_is_integer b_is_integer
  exact Q_ret0 (E_and (E_bi (L_cons (E_vr rfl) (L_cons E_pu L_nil)) rfl) (fun _ => rfl) (fun hc1 => (E_bo1 (E_un (E_bi (L_cons (E_vr rfl) (L_cons E_pu L_nil)) rfl) rfl))))
def v_is_number (a0 : Int) : Bool := ((v_is_integer a0) && (decide (a0 ≥ (0 : Int))))
theorem s_is_number (k : Nat) (a0 : Int) (st : Store) (hc : Closed st) : callF G 1000000 (k + 2) ("is_number", none) [.d (DV.int a0)] (st) = .ok (.d (DV.bl (v_is_number a0))) (st) := by
  refine (q_is_number (k + 1) (.d (DV.int a0)) _).trans ?_
  refine fn_end (rv := fun w => (.d (DV.bl w), st)) (w := v_is_number a0) ?_ rfl rfl hc
  show RetS _ (b_is_number (callF G 1000000 (k + 1)) [some (Val.d (DV.int a0))] (st)) _
  unfold v_is_number b_is_number
  exact Q_ret0 (E_and (E_ca (L_cons (E_vr rfl) L_nil) (s_is_integer (k + (0)) _ _ hc)) (fun _ => rfl) (fun hc1 => (E_bo1 (E_cmp (E_vr rfl) E_pu rfl))))
def v_is_value (a0 : Int) : Bool := ((v_is_integer a0) && ((decide ((0 : Int) ≤ a0)) && (decide (a0 ≤ (1 : Int)))))
theorem s_is_value (k : Nat) (a0 : Int) (st : Store) (hc : Closed st) : callF G 1000000 (k + 2) ("is_value", none) [.d (DV.int a0)] (st) = .ok (.d (DV.bl (v_is_value a0))) (st) := by
  refine (q_is_value (k + 1) (.d (DV.int a0)) _).trans ?_
  refine fn_end (rv := fun w => (.d (DV.bl w), st)) (w := v_is_value a0) ?_ rfl rfl hc
  show RetS _ (b_is_value (callF G 1000000 (k + 1)) [some (Val.d (DV.int a0))] (st)) _
  unfold v_is_value b_is_value
  exact Q_ret0 (E_and (E_ca (L_cons (E_vr rfl) L_nil) (s_is_integer (k + (0)) _ _ hc)) (fun _ => rfl) (fun hc2 => (E_bo1 (E_cmp2 E_pu (E_vr rfl) rfl (fun hc1 => E_pu) rfl))))
def v_is_row (a0 : (List Int)) (a1 : Int) : Bool := (if ((!true) || (!(decide ((a0.length : Int) = a1)))) then false else (decide ((((a0.filter fun (y2 : Int) => (!(v_is_value y2))).map fun (y2 : Int) => y2).length : Int) = (0 : Int))))
def ok_is_row (a0 : (List Int)) (a1 : Int) : Prop := (((!true) || (!(decide ((a0.length : Int) = a1)))) = false → (((a0.length ≤ lim))))
theorem s_is_row (k : Nat) (a0 : (List Int)) (a1 : Int) (st : Store) (hc : Closed st) (h : ok_is_row a0 a1) : callF G 1000000 (k + 3) ("is_row", none) [.d ((eT DV.int) a0), .d (DV.int a1)] (st) = .ok (.d (DV.bl (v_is_row a0 a1))) (st) := by
  refine (q_is_row (k + 2) (.d ((eT DV.int) a0)) (.d (DV.int a1)) _).trans ?_
  refine fn_end (rv := fun w => (.d (DV.bl w), st)) (w := v_is_row a0 a1) ?_ rfl rfl hc
  show RetS _ (b_is_row (callF G 1000000 (k + 2)) [some (Val.d ((eT DV.int) a0)), some (Val.d (DV.int a1)), none] (st)) _
  unfold ok_is_row at h
  unfold v_is_row b_is_row
  refine S_if (s1 := st) (T_or (T_not (T_bl (E_bi (L_cons (E_vr rfl) (L_cons E_pu L_nil)) rfl))) (fun _ => rfl) (fun hc1 => (T_bo1 (T_cmp (E_len (E_vr rfl) rfl len_T) (E_vr rfl) rfl)))) (fun h3 => ?_) (fun h3 => ?_)
  · exact Q_ret0 E_pu
  · have h3k := h h3
    exact Q_ret0 (E_cmp (E_len (E_lc (en := DV.int) (f := fun (y2 : Int) => Val.d (DV.int y2)) (e := fun (y2 : Int) => ([some (Val.d ((eT DV.int) a0)), some (Val.d (DV.int a1)), some (Val.d (DV.int y2))] : IP.Env)) (p := fun (y2 : Int) => (!(v_is_value y2))) (g := fun (y2 : Int) => y2) (W_genT (E_vr rfl)) h3k (fun _ => rfl) (fun y2 hmy2 => (T_not (T_bl (E_ca (L_cons (E_vr rfl) L_nil) (s_is_value (k + (0)) _ _ hc))))) (fun y2 hmy2 hpy2 => (E_vr rfl))) rfl len_L) E_pu rfl)
def v_are_rows (a0 : Int) (a1 : (List (List Int))) : Bool := (if ((!(v_is_number a0)) || ((!true) || (decide ((a1.length : Int) = (0 : Int))))) then false else (decide ((((a1.filter fun (y3 : (List Int)) => (!(v_is_row y3 a0))).map fun (y3 : (List Int)) => y3).length : Int) = (0 : Int))))
def ok_are_rows (a0 : Int) (a1 : (List (List Int))) : Prop := (((!(v_is_number a0)) || ((!true) || (decide ((a1.length : Int) = (0 : Int))))) = false → (((a1.length ≤ lim) ∧ (∀ y3 ∈ a1, ((((ok_is_row y3 a0))))))))
theorem s_are_rows (k : Nat) (a0 : Int) (a1 : (List (List Int))) (st : Store) (hc : Closed st) (h : ok_are_rows a0 a1) : callF G 1000000 (k + 4) ("are_rows", none) [.d (DV.int a0), .d ((eL (eT DV.int)) a1)] (st) = .ok (.d (DV.bl (v_are_rows a0 a1))) (st) := by
  refine (q_are_rows (k + 3) (.d (DV.int a0)) (.d ((eL (eT DV.int)) a1)) _).trans ?_
  refine fn_end (rv := fun w => (.d (DV.bl w), st)) (w := v_are_rows a0 a1) ?_ rfl rfl hc
  show RetS _ (b_are_rows (callF G 1000000 (k + 3)) [some (Val.d (DV.int a0)), some (Val.d ((eL (eT DV.int)) a1)), none] (st)) _
  unfold ok_are_rows at h
  unfold v_are_rows b_are_rows
  refine S_if (s1 := st) (T_or (T_not (T_bl (E_ca (L_cons (E_vr rfl) L_nil) (s_is_number (k + (1)) _ _ hc)))) (fun _ => rfl) (fun hc2 => (T_or (T_not (T_bl (E_is (E_vr rfl) (L_cons E_pu (L_cons E_pu L_nil)) rfl))) (fun _ => rfl) (fun hc1 => (T_bo1 (T_cmp (E_len (E_vr rfl) rfl len_L) E_pu rfl)))))) (fun h4 => ?_) (fun h4 => ?_)
  · exact Q_ret0 E_pu
  · have h4k := h h4
    exact Q_ret0 (E_cmp (E_len (E_lc (en := (eT DV.int)) (f := fun (y3 : (List Int)) => Val.d ((eT DV.int) y3)) (e := fun (y3 : (List Int)) => ([some (Val.d (DV.int a0)), some (Val.d ((eL (eT DV.int)) a1)), some (Val.d ((eT DV.int) y3))] : IP.Env)) (p := fun (y3 : (List Int)) => (!(v_is_row y3 a0))) (g := fun (y3 : (List Int)) => y3) (W_genL (E_vr rfl)) h4k.1 (fun _ => rfl) (fun y3 hmy3 => (T_not (T_bl (E_ca (L_cons (E_vr rfl) (L_cons (E_vr rfl) L_nil)) (s_is_row (k + (0)) _ _ _ hc (h4k.2 y3 hmy3)))))) (fun y3 hmy3 hpy3 => (E_vr rfl))) rfl len_L) E_pu rfl)
def okRules (size : Int) (rows : List (List Int)) : Prop := ok_are_rows size rows ∧ v_are_rows size rows = true ∧ okSortSet rows
theorem mk_Rules_L (k : Nat) (size : Int) (rows : List (List Int)) (st : Store) (hc : Closed st) (h : okRules size rows) : makeM G (callF G 1000000 (k + 5)) "Rules" [.d (.int size), .d (eL (eT DV.int) rows)] st = .ok (.d (eR (mkRules size rows))) st := by
  refine mk_frozen (ns := ["size", "rows"]) (ds := [.int size, eT (eT DV.int) (sortT (dedup rows))]) hc (by decide +kernel) ?_
  refine (q_Rules___init__ (k + 4) _ _ _ _).trans ?_
  have hc' : Closed (st ++ [Cell.obj "Rules" ["size", "rows"] ([DV.int size, eT (eT DV.int) (sortT (dedup rows))].map Val.d)]) := hc.obj
  refine fn_end (rv := fun _ : Unit => (.d .non, st ++ [Cell.obj "Rules" ["size", "rows"] ([DV.int size, eT (eT DV.int) (sortT (dedup rows))].map Val.d)])) (w := ()) ?_ rfl (by simp) hc'
  show RetS _ (b_Rules___init__ (callF G 1000000 (k + 4)) [some (.r st.length), some (.d (.int size)), some (.d (eL (eT DV.int) rows))] (st ++ [.obj "Rules" [] []])) _
  unfold b_Rules___init__
  have hcl : Closed (st ++ [Cell.obj "Rules" [] []]) := hc.obj (ds := [])
  refine S_ifN (T_not (T_bl (E_ca (L_cons (E_vr rfl) (L_cons (E_vr rfl) L_nil)) (s_are_rows k size rows _ hcl h.1)))) (by rw [h.2.1]; rfl) ?_
  show RetS _ (blS [_, _] _ _) _
  rw [asgF_bl (n := st.length) (c := "Rules") (ns := []) (xs := []) (s3 := st ++ [.obj "Rules" ["size"] [.d (.int size)]]) (E_vr rfl) (E_vr rfl) (by simp) ⟨by decide, by decide, rfl⟩ (by simp [putZ])]
  rw [asgF_bl (n := st.length) (c := "Rules") (ns := ["size"]) (xs := [.d (.int size)]) (s3 := st ++ [.obj "Rules" ["size", "rows"] [.d (.int size), .d (eT (eT DV.int) (sortT (dedup rows)))]]) (E_bi (L_cons (E_ss (E_vr rfl) (ssorted_L h.2.2)) L_nil) tuple_L) (E_vr rfl) (by simp) ⟨by decide, by decide, rfl⟩ (by rw [List.set_append_right _ _ (Nat.le_refl _)]; simp; exact ⟨rfl, rfl⟩)]
  exact Q_next0 rfl rfl
def v__law_played (a0 : (List (List Int))) (a1 : (List Int)) (a2 : Int) : ((List Int) × (List Int)) := (lt (((irange (0 : Int) (a1.length : Int)).map fun (y1 : Int) => (1 : Int)) : (List Int)) fun (x2 : (List Int)) => (lt (([] : List Int) : List Int) fun c3 => (lt ((List.foldl (fun (s29 : ((List Int) × (List Int))) (y4 : Int) => (lt (((0 : Int) - (1 : Int)) : Int) fun (x31 : Int) => (lt ((0 : Int) : Int) fun (x32 : Int) => (lt ((List.foldl (fun (s39 : (Int × Int)) (y33 : Int) => (lt ((((irange (0 : Int) (a1.length : Int)).filter fun (y41 : Int) => (decide ((ix (ix a0 y33) y41) = (ix a1 y41)))).map fun (y41 : Int) => (ix s29.1 y41)).sum : Int) fun (x42 : Int) => (if (decide (x42 > s39.1)) then (lt (x42 : Int) fun (x43 : Int) => (lt (y33 : Int) fun (x44 : Int) => (x43, x44))) else (s39.1, s39.2)))) (x31, x32) (irange (0 : Int) (a0.length : Int))) : (Int × Int)) fun (s39 : (Int × Int)) => (lt ((s29.2 ++ [s39.2]) : List Int) fun c46 => (lt (((irange (0 : Int) (a1.length : Int)).map fun (y47 : Int) => (if (decide ((ix (ix a0 s39.2) y47) = (ix a1 y47))) then (ix s29.1 y47) else ((2 : Int) * (ix s29.1 y47)))) : (List Int)) fun (x49 : (List Int)) => (x49, c46))))))) (x2, c3) (irange (0 : Int) a2)) : ((List Int) × (List Int))) fun (s29 : ((List Int) × (List Int))) => (s29.2, s29.1))))
def ok__law_played (a0 : (List (List Int))) (a1 : (List Int)) (a2 : Int) : Prop := (((small62 (a1.length : Int) = true)) ∧ ((irange (0 : Int) (a1.length : Int)).length ≤ lim)) ∧ (lt (((irange (0 : Int) (a1.length : Int)).map fun (y1 : Int) => (1 : Int)) : (List Int)) fun (x2 : (List Int)) => (lt (([] : List Int) : List Int) fun c3 => ((small62 a2 = true)) ∧ (okFor (fun (s29 : ((List Int) × (List Int))) (y4 : Int) => (lt (((0 : Int) - (1 : Int)) : Int) fun (x31 : Int) => (lt ((0 : Int) : Int) fun (x32 : Int) => ((small62 (a0.length : Int) = true)) ∧ (okFor (fun (s39 : (Int × Int)) (y33 : Int) => (((small62 (a1.length : Int) = true)) ∧ ((irange (0 : Int) (a1.length : Int)).length ≤ lim) ∧ (∀ y41 ∈ (irange (0 : Int) (a1.length : Int)), ((((IP.inR a0.length y33)) ∧ (IP.inR (ix a0 y33).length y41)) ∧ ((IP.inR a1.length y41))) ∧ ((decide ((ix (ix a0 y33) y41) = (ix a1 y41))) = true → (IP.inR s29.1.length y41))))) (fun (s39 : (Int × Int)) (y33 : Int) => (lt ((((irange (0 : Int) (a1.length : Int)).filter fun (y41 : Int) => (decide ((ix (ix a0 y33) y41) = (ix a1 y41)))).map fun (y41 : Int) => (ix s29.1 y41)).sum : Int) fun (x42 : Int) => (if (decide (x42 > s39.1)) then (lt (x42 : Int) fun (x43 : Int) => (lt (y33 : Int) fun (x44 : Int) => (x43, x44))) else (s39.1, s39.2)))) (x31, x32) (irange (0 : Int) (a0.length : Int))) ∧ (lt ((List.foldl (fun (s39 : (Int × Int)) (y33 : Int) => (lt ((((irange (0 : Int) (a1.length : Int)).filter fun (y41 : Int) => (decide ((ix (ix a0 y33) y41) = (ix a1 y41)))).map fun (y41 : Int) => (ix s29.1 y41)).sum : Int) fun (x42 : Int) => (if (decide (x42 > s39.1)) then (lt (x42 : Int) fun (x43 : Int) => (lt (y33 : Int) fun (x44 : Int) => (x43, x44))) else (s39.1, s39.2)))) (x31, x32) (irange (0 : Int) (a0.length : Int))) : (Int × Int)) fun (s39 : (Int × Int)) => ((s29.2.length < lim)) ∧ (lt ((s29.2 ++ [s39.2]) : List Int) fun c46 => ((small62 (a1.length : Int) = true)) ∧ ((irange (0 : Int) (a1.length : Int)).length ≤ lim) ∧ (∀ y47 ∈ (irange (0 : Int) (a1.length : Int)), (((((IP.inR a0.length s39.2)) ∧ (IP.inR (ix a0 s39.2).length y47)) ∧ ((IP.inR a1.length y47))) ∧ ((decide ((ix (ix a0 s39.2) y47) = (ix a1 y47))) = true → (IP.inR s29.1.length y47)) ∧ ((decide ((ix (ix a0 s39.2) y47) = (ix a1 y47))) = false → ((IP.inR s29.1.length y47)))))))))) (fun (s29 : ((List Int) × (List Int))) (y4 : Int) => (lt (((0 : Int) - (1 : Int)) : Int) fun (x31 : Int) => (lt ((0 : Int) : Int) fun (x32 : Int) => (lt ((List.foldl (fun (s39 : (Int × Int)) (y33 : Int) => (lt ((((irange (0 : Int) (a1.length : Int)).filter fun (y41 : Int) => (decide ((ix (ix a0 y33) y41) = (ix a1 y41)))).map fun (y41 : Int) => (ix s29.1 y41)).sum : Int) fun (x42 : Int) => (if (decide (x42 > s39.1)) then (lt (x42 : Int) fun (x43 : Int) => (lt (y33 : Int) fun (x44 : Int) => (x43, x44))) else (s39.1, s39.2)))) (x31, x32) (irange (0 : Int) (a0.length : Int))) : (Int × Int)) fun (s39 : (Int × Int)) => (lt ((s29.2 ++ [s39.2]) : List Int) fun c46 => (lt (((irange (0 : Int) (a1.length : Int)).map fun (y47 : Int) => (if (decide ((ix (ix a0 s39.2) y47) = (ix a1 y47))) then (ix s29.1 y47) else ((2 : Int) * (ix s29.1 y47)))) : (List Int)) fun (x49 : (List Int)) => (x49, c46))))))) (x2, c3) (irange (0 : Int) a2))))
theorem s__law_played (k : Nat) (a0 : (List (List Int))) (a1 : (List Int)) (a2 : Int) (st : Store) (hc : Closed st) (h : ok__law_played a0 a1 a2) : callF G 1000000 (k + 1) ("_law_played", none) [.d ((eL (eT DV.int)) a0), .d ((eT DV.int) a1), .d (DV.int a2)] (st) = .ok (.d ((eP (eT DV.int) (eT DV.int)) (v__law_played a0 a1 a2))) (st) := by
  refine (q__law_played (k + 0) (.d ((eL (eT DV.int)) a0)) (.d ((eT DV.int) a1)) (.d (DV.int a2)) _).trans ?_
  refine fn_end (rv := fun w => (.d ((eP (eT DV.int) (eT DV.int)) w), st)) (w := v__law_played a0 a1 a2) ?_ rfl rfl hc
  show RetS _ (b__law_played (callF G 1000000 (k + 0)) [some (Val.d ((eL (eT DV.int)) a0)), some (Val.d ((eT DV.int) a1)), some (Val.d (DV.int a2)), none, none, none, none, none, none, none, none] (st)) _
  unfold ok__law_played at h
  unfold v__law_played b__law_played
  refine S_asg (en := (eL DV.int)) (env' := fun (x2 : (List Int)) => [some (Val.d ((eL (eT DV.int)) a0)), some (Val.d ((eT DV.int) a1)), some (Val.d (DV.int a2)), some (Val.d ((eL DV.int) x2)), none, none, none, none, none, none, none]) (E_lc0 (en := DV.int) (f := fun (y1 : Int) => Val.d (DV.int y1)) (e := fun (y1 : Int) => ([some (Val.d ((eL (eT DV.int)) a0)), some (Val.d ((eT DV.int) a1)), some (Val.d (DV.int a2)), none, none, none, none, none, none, some (Val.d (DV.int y1)), none] : IP.Env)) (g := fun (y1 : Int) => (1 : Int)) (W_rng1 (E_len (E_vr rfl) rfl len_T) h.1.1) h.1.2 (fun _ => rfl) (fun y1 hmy1 => E_pu)) (fun _ => rfl) h.2 ?_
  intro x2 h58
  refine S_asgv (env' := [some (Val.d ((eL (eT DV.int)) a0)), some (Val.d ((eT DV.int) a1)), some (Val.d (DV.int a2)), some (Val.d ((eL DV.int) x2)), some (Val.r (st.length + 0)), none, none, none, none, none, none]) (E_licE L_nil rfl rfl) rfl ?_
  refine S_gen (S := (fun (c3 : List Int) => (st ++ [cL DV.int c3] : IP.Store))) h58 ?_
  intro c3 h57
  refine S_for (J := (Option Val × Option Val × Option Val × Option Val × Option Val)) (E := (fun (s29 : ((List Int) × (List Int))) (j30 : (Option Val × Option Val × Option Val × Option Val × Option Val)) => ([some (Val.d ((eL (eT DV.int)) a0)), some (Val.d ((eT DV.int) a1)), some (Val.d (DV.int a2)), some (Val.d ((eL DV.int) s29.1)), some (Val.r (st.length + 0)), j30.2.2.2.2, j30.1, j30.2.1, j30.2.2.1, none, j30.2.2.2.1] : IP.Env))) (S := (fun (s29 : ((List Int) × (List Int))) => (st ++ [cL DV.int s29.2] : IP.Store))) (f := fun (y4 : Int) => Val.d (DV.int y4)) (stp := (fun (s29 : ((List Int) × (List Int))) (y4 : Int) => (lt (((0 : Int) - (1 : Int)) : Int) fun (x31 : Int) => (lt ((0 : Int) : Int) fun (x32 : Int) => (lt ((List.foldl (fun (s39 : (Int × Int)) (y33 : Int) => (lt ((((irange (0 : Int) (a1.length : Int)).filter fun (y41 : Int) => (decide ((ix (ix a0 y33) y41) = (ix a1 y41)))).map fun (y41 : Int) => (ix s29.1 y41)).sum : Int) fun (x42 : Int) => (if (decide (x42 > s39.1)) then (lt (x42 : Int) fun (x43 : Int) => (lt (y33 : Int) fun (x44 : Int) => (x43, x44))) else (s39.1, s39.2)))) (x31, x32) (irange (0 : Int) (a0.length : Int))) : (Int × Int)) fun (s39 : (Int × Int)) => (lt ((s29.2 ++ [s39.2]) : List Int) fun c46 => (lt (((irange (0 : Int) (a1.length : Int)).map fun (y47 : Int) => (if (decide ((ix (ix a0 s39.2) y47) = (ix a1 y47))) then (ix s29.1 y47) else ((2 : Int) * (ix s29.1 y47)))) : (List Int)) fun (x49 : (List Int)) => (x49, c46)))))))) (ok := (fun (s29 : ((List Int) × (List Int))) (y4 : Int) => (lt (((0 : Int) - (1 : Int)) : Int) fun (x31 : Int) => (lt ((0 : Int) : Int) fun (x32 : Int) => ((small62 (a0.length : Int) = true)) ∧ (okFor (fun (s39 : (Int × Int)) (y33 : Int) => (((small62 (a1.length : Int) = true)) ∧ ((irange (0 : Int) (a1.length : Int)).length ≤ lim) ∧ (∀ y41 ∈ (irange (0 : Int) (a1.length : Int)), ((((IP.inR a0.length y33)) ∧ (IP.inR (ix a0 y33).length y41)) ∧ ((IP.inR a1.length y41))) ∧ ((decide ((ix (ix a0 y33) y41) = (ix a1 y41))) = true → (IP.inR s29.1.length y41))))) (fun (s39 : (Int × Int)) (y33 : Int) => (lt ((((irange (0 : Int) (a1.length : Int)).filter fun (y41 : Int) => (decide ((ix (ix a0 y33) y41) = (ix a1 y41)))).map fun (y41 : Int) => (ix s29.1 y41)).sum : Int) fun (x42 : Int) => (if (decide (x42 > s39.1)) then (lt (x42 : Int) fun (x43 : Int) => (lt (y33 : Int) fun (x44 : Int) => (x43, x44))) else (s39.1, s39.2)))) (x31, x32) (irange (0 : Int) (a0.length : Int))) ∧ (lt ((List.foldl (fun (s39 : (Int × Int)) (y33 : Int) => (lt ((((irange (0 : Int) (a1.length : Int)).filter fun (y41 : Int) => (decide ((ix (ix a0 y33) y41) = (ix a1 y41)))).map fun (y41 : Int) => (ix s29.1 y41)).sum : Int) fun (x42 : Int) => (if (decide (x42 > s39.1)) then (lt (x42 : Int) fun (x43 : Int) => (lt (y33 : Int) fun (x44 : Int) => (x43, x44))) else (s39.1, s39.2)))) (x31, x32) (irange (0 : Int) (a0.length : Int))) : (Int × Int)) fun (s39 : (Int × Int)) => ((s29.2.length < lim)) ∧ (lt ((s29.2 ++ [s39.2]) : List Int) fun c46 => ((small62 (a1.length : Int) = true)) ∧ ((irange (0 : Int) (a1.length : Int)).length ≤ lim) ∧ (∀ y47 ∈ (irange (0 : Int) (a1.length : Int)), (((((IP.inR a0.length s39.2)) ∧ (IP.inR (ix a0 s39.2).length y47)) ∧ ((IP.inR a1.length y47))) ∧ ((decide ((ix (ix a0 s39.2) y47) = (ix a1 y47))) = true → (IP.inR s29.1.length y47)) ∧ ((decide ((ix (ix a0 s39.2) y47) = (ix a1 y47))) = false → ((IP.inR s29.1.length y47))))))))))) (okR := fun (s29 : ((List Int) × (List Int))) => True) ((none), (none), (none), (none), (none)) (W_rng1 (E_vr rfl) h57.1) rfl h57.2 ?_ trivial ?_
  · intro s29 y4 j30 h55
    refine ⟨[some (Val.d ((eL (eT DV.int)) a0)), some (Val.d ((eT DV.int) a1)), some (Val.d (DV.int a2)), some (Val.d ((eL DV.int) s29.1)), some (Val.r (st.length + 0)), some (Val.d (DV.int y4)), j30.1, j30.2.1, j30.2.2.1, none, j30.2.2.2.1], rfl, ?_⟩
    refine S_asg (en := DV.int) (env' := fun (x31 : Int) => [some (Val.d ((eL (eT DV.int)) a0)), some (Val.d ((eT DV.int) a1)), some (Val.d (DV.int a2)), some (Val.d ((eL DV.int) s29.1)), some (Val.r (st.length + 0)), some (Val.d (DV.int y4)), some (Val.d (DV.int x31)), j30.2.1, j30.2.2.1, none, j30.2.2.2.1]) (E_bin E_pu E_pu rfl) (fun _ => rfl) h55 ?_
    intro x31 h54
    refine S_asg (en := DV.int) (env' := fun (x32 : Int) => [some (Val.d ((eL (eT DV.int)) a0)), some (Val.d ((eT DV.int) a1)), some (Val.d (DV.int a2)), some (Val.d ((eL DV.int) s29.1)), some (Val.r (st.length + 0)), some (Val.d (DV.int y4)), some (Val.d (DV.int x31)), some (Val.d (DV.int x32)), j30.2.2.1, none, j30.2.2.2.1]) E_pu (fun _ => rfl) h54 ?_
    intro x32 h53
    refine S_for (J := (Option Val × Option Val)) (E := (fun (s39 : (Int × Int)) (j40 : (Option Val × Option Val)) => ([some (Val.d ((eL (eT DV.int)) a0)), some (Val.d ((eT DV.int) a1)), some (Val.d (DV.int a2)), some (Val.d ((eL DV.int) s29.1)), some (Val.r (st.length + 0)), some (Val.d (DV.int y4)), some (Val.d (DV.int s39.1)), some (Val.d (DV.int s39.2)), j40.2, none, j40.1] : IP.Env))) (S := (fun (s39 : (Int × Int)) => (st ++ [cL DV.int s29.2] : IP.Store))) (f := fun (y33 : Int) => Val.d (DV.int y33)) (stp := (fun (s39 : (Int × Int)) (y33 : Int) => (lt ((((irange (0 : Int) (a1.length : Int)).filter fun (y41 : Int) => (decide ((ix (ix a0 y33) y41) = (ix a1 y41)))).map fun (y41 : Int) => (ix s29.1 y41)).sum : Int) fun (x42 : Int) => (if (decide (x42 > s39.1)) then (lt (x42 : Int) fun (x43 : Int) => (lt (y33 : Int) fun (x44 : Int) => (x43, x44))) else (s39.1, s39.2))))) (ok := (fun (s39 : (Int × Int)) (y33 : Int) => (((small62 (a1.length : Int) = true)) ∧ ((irange (0 : Int) (a1.length : Int)).length ≤ lim) ∧ (∀ y41 ∈ (irange (0 : Int) (a1.length : Int)), ((((IP.inR a0.length y33)) ∧ (IP.inR (ix a0 y33).length y41)) ∧ ((IP.inR a1.length y41))) ∧ ((decide ((ix (ix a0 y33) y41) = (ix a1 y41))) = true → (IP.inR s29.1.length y41)))))) (okR := fun (s39 : (Int × Int)) => ((s29.2.length < lim)) ∧ (lt ((s29.2 ++ [s39.2]) : List Int) fun c46 => ((small62 (a1.length : Int) = true)) ∧ ((irange (0 : Int) (a1.length : Int)).length ≤ lim) ∧ (∀ y47 ∈ (irange (0 : Int) (a1.length : Int)), (((((IP.inR a0.length s39.2)) ∧ (IP.inR (ix a0 s39.2).length y47)) ∧ ((IP.inR a1.length y47))) ∧ ((decide ((ix (ix a0 s39.2) y47) = (ix a1 y47))) = true → (IP.inR s29.1.length y47)) ∧ ((decide ((ix (ix a0 s39.2) y47) = (ix a1 y47))) = false → ((IP.inR s29.1.length y47))))))) ((j30.2.2.2.1), (j30.2.2.1)) (W_rng1 (E_len (E_vr rfl) rfl len_L) h53.1) rfl h53.2.1 ?_ h53.2.2 ?_
    · intro s39 y33 j40 h51
      refine ⟨[some (Val.d ((eL (eT DV.int)) a0)), some (Val.d ((eT DV.int) a1)), some (Val.d (DV.int a2)), some (Val.d ((eL DV.int) s29.1)), some (Val.r (st.length + 0)), some (Val.d (DV.int y4)), some (Val.d (DV.int s39.1)), some (Val.d (DV.int s39.2)), some (Val.d (DV.int y33)), none, j40.1], rfl, ?_⟩
      refine S_asg0 (en := DV.int) (env' := fun (x42 : Int) => [some (Val.d ((eL (eT DV.int)) a0)), some (Val.d ((eT DV.int) a1)), some (Val.d (DV.int a2)), some (Val.d ((eL DV.int) s29.1)), some (Val.r (st.length + 0)), some (Val.d (DV.int y4)), some (Val.d (DV.int s39.1)), some (Val.d (DV.int s39.2)), some (Val.d (DV.int y33)), none, some (Val.d (DV.int x42))]) (E_bi (L_cons (E_lc (en := DV.int) (f := fun (y41 : Int) => Val.d (DV.int y41)) (e := fun (y41 : Int) => ([some (Val.d ((eL (eT DV.int)) a0)), some (Val.d ((eT DV.int) a1)), some (Val.d (DV.int a2)), some (Val.d ((eL DV.int) s29.1)), some (Val.r (st.length + 0)), some (Val.d (DV.int y4)), some (Val.d (DV.int s39.1)), some (Val.d (DV.int s39.2)), some (Val.d (DV.int y33)), some (Val.d (DV.int y41)), j40.1] : IP.Env)) (p := fun (y41 : Int) => (decide ((ix (ix a0 y33) y41) = (ix a1 y41)))) (g := fun (y41 : Int) => (ix s29.1 y41)) (W_rng1 (E_len (E_vr rfl) rfl len_T) h51.1) h51.2.1 (fun _ => rfl) (fun y41 hmy41 => (T_cmp (E_sub (E_sub (E_vr rfl) (E_vr rfl) (item_L (h51.2.2 y41 hmy41).1.1.1)) (E_vr rfl) (item_T (h51.2.2 y41 hmy41).1.1.2)) (E_sub (E_vr rfl) (E_vr rfl) (item_T (h51.2.2 y41 hmy41).1.2)) rfl)) (fun y41 hmy41 hpy41 => (E_sub (E_vr rfl) (E_vr rfl) (item_L ((h51.2.2 y41 hmy41).2 hpy41))))) L_nil) sum_L) (fun _ => rfl) ?_
      intro x42
      refine S_if (s1 := st ++ [cL DV.int s29.2]) (T_cmp (E_vr rfl) (E_vr rfl) rfl) (fun h45 => ?_) (fun h45 => ?_)
      · refine S_asg0 (en := DV.int) (env' := fun (x43 : Int) => [some (Val.d ((eL (eT DV.int)) a0)), some (Val.d ((eT DV.int) a1)), some (Val.d (DV.int a2)), some (Val.d ((eL DV.int) s29.1)), some (Val.r (st.length + 0)), some (Val.d (DV.int y4)), some (Val.d (DV.int x43)), some (Val.d (DV.int s39.2)), some (Val.d (DV.int y33)), none, some (Val.d (DV.int x42))]) (E_vr rfl) (fun _ => rfl) ?_
        intro x43
        refine S_asg0 (en := DV.int) (env' := fun (x44 : Int) => [some (Val.d ((eL (eT DV.int)) a0)), some (Val.d ((eT DV.int) a1)), some (Val.d (DV.int a2)), some (Val.d ((eL DV.int) s29.1)), some (Val.r (st.length + 0)), some (Val.d (DV.int y4)), some (Val.d (DV.int x43)), some (Val.d (DV.int x44)), some (Val.d (DV.int y33)), none, some (Val.d (DV.int x42))]) (E_vr rfl) (fun _ => rfl) ?_
        intro x44
        exact Q_fallC ((some (Val.d (DV.int x42))), (some (Val.d (DV.int y33)))) rfl rfl
      · exact Q_fallC ((some (Val.d (DV.int x42))), (some (Val.d (DV.int y33)))) rfl rfl
    intro s39 j40 h52
    refine S_expr (E_meAC (en := DV.int) (E_vr rfl) (getP rfl) (L_cons (E_vr rfl) L_nil) (getP rfl) h52.1 (setP rfl)) ?_
    refine S_gen (S := (fun (c46 : List Int) => (st ++ [cL DV.int c46] : IP.Store))) h52.2 ?_
    intro c46 h50
    refine S_asg0 (en := (eL DV.int)) (env' := fun (x49 : (List Int)) => [some (Val.d ((eL (eT DV.int)) a0)), some (Val.d ((eT DV.int) a1)), some (Val.d (DV.int a2)), some (Val.d ((eL DV.int) x49)), some (Val.r (st.length + 0)), some (Val.d (DV.int y4)), some (Val.d (DV.int s39.1)), some (Val.d (DV.int s39.2)), j40.2, none, j40.1]) (E_lc0 (en := DV.int) (f := fun (y47 : Int) => Val.d (DV.int y47)) (e := fun (y47 : Int) => ([some (Val.d ((eL (eT DV.int)) a0)), some (Val.d ((eT DV.int) a1)), some (Val.d (DV.int a2)), some (Val.d ((eL DV.int) s29.1)), some (Val.r (st.length + 0)), some (Val.d (DV.int y4)), some (Val.d (DV.int s39.1)), some (Val.d (DV.int s39.2)), j40.2, some (Val.d (DV.int y47)), j40.1] : IP.Env)) (g := fun (y47 : Int) => (if (decide ((ix (ix a0 s39.2) y47) = (ix a1 y47))) then (ix s29.1 y47) else ((2 : Int) * (ix s29.1 y47)))) (W_rng1 (E_len (E_vr rfl) rfl len_T) h50.1) h50.2.1 (fun _ => rfl) (fun y47 hmy47 => (E_if (en := DV.int) (T_cmp (E_sub (E_sub (E_vr rfl) (E_vr rfl) (item_L (h50.2.2 y47 hmy47).1.1.1)) (E_vr rfl) (item_T (h50.2.2 y47 hmy47).1.1.2)) (E_sub (E_vr rfl) (E_vr rfl) (item_T (h50.2.2 y47 hmy47).1.2)) rfl) (fun hc48 => (E_sub (E_vr rfl) (E_vr rfl) (item_L ((h50.2.2 y47 hmy47).2.1 hc48)))) (fun hc48 => (E_bin E_pu (E_sub (E_vr rfl) (E_vr rfl) (item_L ((h50.2.2 y47 hmy47).2.2 hc48))) (bin_mulL (by decide))))))) (fun _ => rfl) ?_
    intro x49
    exact Q_fallC ((some (Val.d (DV.int s39.1))), (some (Val.d (DV.int s39.2))), (j40.2), (j40.1), (some (Val.d (DV.int y4)))) rfl rfl
  intro s29 j30 h56
  exact Q_retL (L := [cL DV.int s29.2]) (E_tu (L_cons (E_bi (L_cons (E_vr rfl) L_nil) (tuple_C (getP rfl))) (L_cons (E_bi (L_cons (E_vr rfl) L_nil) tuple_L) L_nil)) rfl (leLim rfl))
def v_Rules_look_at_row (a0 : (Int × List (List Int))) (a1 : (List Int)) : Unit := ()
def ok_Rules_look_at_row (a0 : (Int × List (List Int))) (a1 : (List Int)) : Prop := ((((ok_is_row a1 a0.1)))) ∧ ((!(v_is_row a1 a0.1)) = false)
theorem s_Rules_look_at_row (k : Nat) (a0 : (Int × List (List Int))) (a1 : (List Int)) (st : Store) (hc : Closed st) (h : ok_Rules_look_at_row a0 a1) : callF G 1000000 (k + 4) ("Rules", (some "look_at_row")) [.d (eR a0), .d ((eT DV.int) a1)] (st) = .ok (.d (eN (v_Rules_look_at_row a0 a1))) (st) := by
  refine (q_Rules_look_at_row (k + 3) (.d (eR a0)) (.d ((eT DV.int) a1)) _).trans ?_
  refine fn_end (rv := fun w => (.d (eN w), st)) (w := v_Rules_look_at_row a0 a1) ?_ rfl rfl hc
  show RetS _ (b_Rules_look_at_row (callF G 1000000 (k + 3)) [some (Val.d (eR a0)), some (Val.d ((eT DV.int) a1))] (st)) _
  unfold ok_Rules_look_at_row at h
  unfold v_Rules_look_at_row b_Rules_look_at_row
  refine S_ifN (s1 := st) (T_not (T_bl (E_ca (L_cons (E_vr rfl) (L_cons (E_fld (E_vr rfl) (fldR_size _ _)) L_nil)) (s_is_row (k + (0)) _ _ _ hc h.1)))) h.2 ?_
  exact Q_next0 rfl rfl
def v_look_at_rounds (a0 : (Int × List (List Int))) (a1 : (List Int)) (a2 : Int) : Unit := ()
def ok_look_at_rounds (a0 : (Int × List (List Int))) (a1 : (List Int)) (a2 : Int) : Prop := ((ok_Rules_look_at_row a0 a1)) ∧ (((!(v_is_number a2)) = false))
theorem s_look_at_rounds (k : Nat) (a0 : (Int × List (List Int))) (a1 : (List Int)) (a2 : Int) (st : Store) (hc : Closed st) (h : ok_look_at_rounds a0 a1 a2) : callF G 1000000 (k + 5) ("look_at_rounds", none) [.d (eR a0), .d ((eT DV.int) a1), .d (DV.int a2)] (st) = .ok (.d (eN (v_look_at_rounds a0 a1 a2))) (st) := by
  refine (q_look_at_rounds (k + 4) (.d (eR a0)) (.d ((eT DV.int) a1)) (.d (DV.int a2)) _).trans ?_
  refine fn_end (rv := fun w => (.d (eN w), st)) (w := v_look_at_rounds a0 a1 a2) ?_ rfl rfl hc
  show RetS _ (b_look_at_rounds (callF G 1000000 (k + 4)) [some (Val.d (eR a0)), some (Val.d ((eT DV.int) a1)), some (Val.d (DV.int a2))] (st)) _
  unfold ok_look_at_rounds at h
  unfold v_look_at_rounds b_look_at_rounds
  refine S_expr (E_me (E_vr rfl) rfl hm_look_at_row (L_cons (E_vr rfl) L_nil) (s_Rules_look_at_row (k + (0))  _ _ _ hc h.1)) ?_
  refine S_ifN (s1 := st) (T_not (T_bl (E_ca (L_cons (E_vr rfl) L_nil) (s_is_number (k + (2)) _ _ hc)))) h.2 ?_
  exact Q_next0 rfl rfl
def v_right_weight (a0 : (List Int)) (a1 : (List Int)) (a2 : (List Int)) : Int := (((a0.zip (a1.zip a2)).filter fun (y1 : (Int × Int × Int)) => (decide (y1.1 = y1.2.1))).map fun (y1 : (Int × Int × Int)) => y1.2.2).sum
def ok_right_weight (a0 : (List Int)) (a1 : (List Int)) (a2 : (List Int)) : Prop := (((a0.zip (a1.zip a2)).length ≤ lim))
theorem s_right_weight (k : Nat) (a0 : (List Int)) (a1 : (List Int)) (a2 : (List Int)) (st : Store) (hc : Closed st) (h : ok_right_weight a0 a1 a2) : callF G 1000000 (k + 1) ("right_weight", none) [.d ((eT DV.int) a0), .d ((eT DV.int) a1), .d ((eT DV.int) a2)] (st) = .ok (.d (DV.int (v_right_weight a0 a1 a2))) (st) := by
  refine (q_right_weight (k + 0) (.d ((eT DV.int) a0)) (.d ((eT DV.int) a1)) (.d ((eT DV.int) a2)) _).trans ?_
  refine fn_end (rv := fun w => (.d (DV.int w), st)) (w := v_right_weight a0 a1 a2) ?_ rfl rfl hc
  show RetS _ (b_right_weight (callF G 1000000 (k + 0)) [some (Val.d ((eT DV.int) a0)), some (Val.d ((eT DV.int) a1)), some (Val.d ((eT DV.int) a2)), none, none, none] (st)) _
  unfold ok_right_weight at h
  unfold v_right_weight b_right_weight
  exact Q_ret0 (E_bi (L_cons (E_lc (en := DV.int) (f := fun (y1 : (Int × Int × Int)) => Val.d ((eP3 DV.int DV.int DV.int) y1)) (e := fun (y1 : (Int × Int × Int)) => ([some (Val.d ((eT DV.int) a0)), some (Val.d ((eT DV.int) a1)), some (Val.d ((eT DV.int) a2)), some (Val.d (DV.int y1.1)), some (Val.d (DV.int y1.2.1)), some (Val.d (DV.int y1.2.2))] : IP.Env)) (p := fun (y1 : (Int × Int × Int)) => (decide (y1.1 = y1.2.1))) (g := fun (y1 : (Int × Int × Int)) => y1.2.2) (W_zip3 (E_vr rfl) (E_vr rfl) (E_vr rfl) rfl rfl rfl) h (fun _ => rfl) (fun y1 hmy1 => (T_cmp (E_vr rfl) (E_vr rfl) rfl)) (fun y1 hmy1 hpy1 => (E_vr rfl))) L_nil) sum_L)
def v_heaviest_rule (a0 : (Int × List (List Int))) (a1 : (List Int)) (a2 : (List Int)) : Int := (lt ((a0.2.map fun (y1 : (List Int)) => (v_right_weight y1 a1 a2)) : (List Int)) fun (x2 : (List Int)) => (idxOf (maxI x2) x2))
def ok_heaviest_rule (a0 : (Int × List (List Int))) (a1 : (List Int)) (a2 : (List Int)) : Prop := ((a0.2.length ≤ lim) ∧ (∀ y1 ∈ a0.2, ((ok_right_weight y1 a1 a2)))) ∧ (lt ((a0.2.map fun (y1 : (List Int)) => (v_right_weight y1 a1 a2)) : (List Int)) fun (x2 : (List Int)) => ((x2 ≠ [])) ∧ ((maxI x2) ∈ x2))
theorem s_heaviest_rule (k : Nat) (a0 : (Int × List (List Int))) (a1 : (List Int)) (a2 : (List Int)) (st : Store) (hc : Closed st) (h : ok_heaviest_rule a0 a1 a2) : callF G 1000000 (k + 2) ("heaviest_rule", none) [.d (eR a0), .d ((eT DV.int) a1), .d ((eT DV.int) a2)] (st) = .ok (.d (DV.int (v_heaviest_rule a0 a1 a2))) (st) := by
  refine (q_heaviest_rule (k + 1) (.d (eR a0)) (.d ((eT DV.int) a1)) (.d ((eT DV.int) a2)) _).trans ?_
  refine fn_end (rv := fun w => (.d (DV.int w), st)) (w := v_heaviest_rule a0 a1 a2) ?_ rfl rfl hc
  show RetS _ (b_heaviest_rule (callF G 1000000 (k + 1)) [some (Val.d (eR a0)), some (Val.d ((eT DV.int) a1)), some (Val.d ((eT DV.int) a2)), none, none] (st)) _
  unfold ok_heaviest_rule at h
  unfold v_heaviest_rule b_heaviest_rule
  refine S_asg (en := (eL DV.int)) (env' := fun (x2 : (List Int)) => [some (Val.d (eR a0)), some (Val.d ((eT DV.int) a1)), some (Val.d ((eT DV.int) a2)), some (Val.d ((eL DV.int) x2)), none]) (E_lc0 (en := DV.int) (f := fun (y1 : (List Int)) => Val.d ((eT DV.int) y1)) (e := fun (y1 : (List Int)) => ([some (Val.d (eR a0)), some (Val.d ((eT DV.int) a1)), some (Val.d ((eT DV.int) a2)), none, some (Val.d ((eT DV.int) y1))] : IP.Env)) (g := fun (y1 : (List Int)) => (v_right_weight y1 a1 a2)) (W_genT (E_fld (E_vr rfl) (fldR_rows _ _))) h.1.1 (fun _ => rfl) (fun y1 hmy1 => (E_ca (L_cons (E_vr rfl) (L_cons (E_vr rfl) (L_cons (E_vr rfl) L_nil))) (s_right_weight (k + (0)) _ _ _ _ hc (h.1.2 y1 hmy1))))) (fun _ => rfl) h.2 ?_
  intro x2 h3
  exact Q_ret0 (E_meX (E_vr rfl) rfl rfl (L_cons (E_bi (L_cons (E_vr rfl) L_nil) (max_L h3.1)) L_nil) (index_L h3.2))
def v_doubled (a0 : (List Int)) (a1 : (List Int)) (a2 : (List Int)) : (List Int) := ((a0.zip (a1.zip a2)).map fun (y1 : (Int × Int × Int)) => (if (decide (y1.1 = y1.2.1)) then y1.2.2 else ((2 : Int) * y1.2.2)))
def ok_doubled (a0 : (List Int)) (a1 : (List Int)) (a2 : (List Int)) : Prop := (((a0.zip (a1.zip a2)).length ≤ lim))
theorem s_doubled (k : Nat) (a0 : (List Int)) (a1 : (List Int)) (a2 : (List Int)) (st : Store) (hc : Closed st) (h : ok_doubled a0 a1 a2) : callF G 1000000 (k + 1) ("doubled", none) [.d ((eT DV.int) a0), .d ((eT DV.int) a1), .d ((eT DV.int) a2)] (st) = .ok (.d ((eT DV.int) (v_doubled a0 a1 a2))) (st) := by
  refine (q_doubled (k + 0) (.d ((eT DV.int) a0)) (.d ((eT DV.int) a1)) (.d ((eT DV.int) a2)) _).trans ?_
  refine fn_end (rv := fun w => (.d ((eT DV.int) w), st)) (w := v_doubled a0 a1 a2) ?_ rfl rfl hc
  show RetS _ (b_doubled (callF G 1000000 (k + 0)) [some (Val.d ((eT DV.int) a0)), some (Val.d ((eT DV.int) a1)), some (Val.d ((eT DV.int) a2)), none, none, none] (st)) _
  unfold ok_doubled at h
  unfold v_doubled b_doubled
  exact Q_ret0 (E_bi (L_cons (E_lc0 (en := DV.int) (f := fun (y1 : (Int × Int × Int)) => Val.d ((eP3 DV.int DV.int DV.int) y1)) (e := fun (y1 : (Int × Int × Int)) => ([some (Val.d ((eT DV.int) a0)), some (Val.d ((eT DV.int) a1)), some (Val.d ((eT DV.int) a2)), some (Val.d (DV.int y1.1)), some (Val.d (DV.int y1.2.1)), some (Val.d (DV.int y1.2.2))] : IP.Env)) (g := fun (y1 : (Int × Int × Int)) => (if (decide (y1.1 = y1.2.1)) then y1.2.2 else ((2 : Int) * y1.2.2))) (W_zip3 (E_vr rfl) (E_vr rfl) (E_vr rfl) rfl rfl rfl) h (fun _ => rfl) (fun y1 hmy1 => (E_if (en := DV.int) (T_cmp (E_vr rfl) (E_vr rfl) rfl) (fun hc2 => (E_vr rfl)) (fun hc2 => (E_bin E_pu (E_vr rfl) (bin_mulL (by decide))))))) L_nil) tuple_L)
def v_play (a0 : (Int × List (List Int))) (a1 : (List Int)) (a2 : Int) : ((List Int) × (List Int)) := (lt ((rep ([(1 : Int)] : (List Int)) a0.1) : (List Int)) fun (x1 : (List Int)) => (lt (([] : List Int) : List Int) fun c2 => (lt ((List.foldl (fun (s9 : ((List Int) × (List Int))) (y3 : Int) => (lt ((v_heaviest_rule a0 a1 s9.1) : Int) fun (x11 : Int) => (lt ((s9.2 ++ [x11]) : List Int) fun c12 => (lt ((v_doubled (ix a0.2 x11) a1 s9.1) : (List Int)) fun (x13 : (List Int)) => (x13, c12))))) (x1, c2) (irange (0 : Int) a2)) : ((List Int) × (List Int))) fun (s9 : ((List Int) × (List Int))) => (s9.2, s9.1))))
def ok_play (a0 : (Int × List (List Int))) (a1 : (List Int)) (a2 : Int) : Prop := ((0 ≤ a0.1 ∧ a0.1 ≤ 1000 ∧ ([(1 : Int)] : (List Int)).length ≤ 1000 ∧ ([(1 : Int)] : (List Int)) ≠ [])) ∧ (lt ((rep ([(1 : Int)] : (List Int)) a0.1) : (List Int)) fun (x1 : (List Int)) => (lt (([] : List Int) : List Int) fun c2 => ((small62 a2 = true)) ∧ (okFor (fun (s9 : ((List Int) × (List Int))) (y3 : Int) => ((ok_heaviest_rule a0 a1 s9.1)) ∧ (lt ((v_heaviest_rule a0 a1 s9.1) : Int) fun (x11 : Int) => ((s9.2.length < lim)) ∧ (lt ((s9.2 ++ [x11]) : List Int) fun c12 => ((IP.inR a0.2.length x11)) ∧ (ok_doubled (ix a0.2 x11) a1 s9.1)))) (fun (s9 : ((List Int) × (List Int))) (y3 : Int) => (lt ((v_heaviest_rule a0 a1 s9.1) : Int) fun (x11 : Int) => (lt ((s9.2 ++ [x11]) : List Int) fun c12 => (lt ((v_doubled (ix a0.2 x11) a1 s9.1) : (List Int)) fun (x13 : (List Int)) => (x13, c12))))) (x1, c2) (irange (0 : Int) a2))))
theorem s_play (k : Nat) (a0 : (Int × List (List Int))) (a1 : (List Int)) (a2 : Int) (st : Store) (hc : Closed st) (h : ok_play a0 a1 a2) : callF G 1000000 (k + 3) ("play", none) [.d (eR a0), .d ((eT DV.int) a1), .d (DV.int a2)] (st) = .ok (.d ((eP (eT DV.int) (eT DV.int)) (v_play a0 a1 a2))) (st) := by
  refine (q_play (k + 2) (.d (eR a0)) (.d ((eT DV.int) a1)) (.d (DV.int a2)) _).trans ?_
  refine fn_end (rv := fun w => (.d ((eP (eT DV.int) (eT DV.int)) w), st)) (w := v_play a0 a1 a2) ?_ rfl rfl hc
  show RetS _ (b_play (callF G 1000000 (k + 2)) [some (Val.d (eR a0)), some (Val.d ((eT DV.int) a1)), some (Val.d (DV.int a2)), none, none, none, none] (st)) _
  unfold ok_play at h
  unfold v_play b_play
  refine S_asg (en := (eT DV.int)) (env' := fun (x1 : (List Int)) => [some (Val.d (eR a0)), some (Val.d ((eT DV.int) a1)), some (Val.d (DV.int a2)), some (Val.d ((eT DV.int) x1)), none, none, none]) (E_bin (E_tu (L_cons E_pu L_nil) rfl (leLim rfl)) (E_fld (E_vr rfl) (fldR_size _ _)) (bin_rep h.1)) (fun _ => rfl) h.2 ?_
  intro x1 h19
  refine S_asgv (env' := [some (Val.d (eR a0)), some (Val.d ((eT DV.int) a1)), some (Val.d (DV.int a2)), some (Val.d ((eT DV.int) x1)), some (Val.r (st.length + 0)), none, none]) (E_licE L_nil rfl rfl) rfl ?_
  refine S_gen (S := (fun (c2 : List Int) => (st ++ [cL DV.int c2] : IP.Store))) h19 ?_
  intro c2 h18
  refine S_for (J := (Option Val × Option Val)) (E := (fun (s9 : ((List Int) × (List Int))) (j10 : (Option Val × Option Val)) => ([some (Val.d (eR a0)), some (Val.d ((eT DV.int) a1)), some (Val.d (DV.int a2)), some (Val.d ((eT DV.int) s9.1)), some (Val.r (st.length + 0)), j10.2, j10.1] : IP.Env))) (S := (fun (s9 : ((List Int) × (List Int))) => (st ++ [cL DV.int s9.2] : IP.Store))) (f := fun (y3 : Int) => Val.d (DV.int y3)) (stp := (fun (s9 : ((List Int) × (List Int))) (y3 : Int) => (lt ((v_heaviest_rule a0 a1 s9.1) : Int) fun (x11 : Int) => (lt ((s9.2 ++ [x11]) : List Int) fun c12 => (lt ((v_doubled (ix a0.2 x11) a1 s9.1) : (List Int)) fun (x13 : (List Int)) => (x13, c12)))))) (ok := (fun (s9 : ((List Int) × (List Int))) (y3 : Int) => ((ok_heaviest_rule a0 a1 s9.1)) ∧ (lt ((v_heaviest_rule a0 a1 s9.1) : Int) fun (x11 : Int) => ((s9.2.length < lim)) ∧ (lt ((s9.2 ++ [x11]) : List Int) fun c12 => ((IP.inR a0.2.length x11)) ∧ (ok_doubled (ix a0.2 x11) a1 s9.1))))) (okR := fun (s9 : ((List Int) × (List Int))) => True) ((none), (none)) (W_rng1 (E_vr rfl) h18.1) rfl h18.2 ?_ trivial ?_
  · intro s9 y3 j10 h16
    refine ⟨[some (Val.d (eR a0)), some (Val.d ((eT DV.int) a1)), some (Val.d (DV.int a2)), some (Val.d ((eT DV.int) s9.1)), some (Val.r (st.length + 0)), some (Val.d (DV.int y3)), j10.1], rfl, ?_⟩
    refine S_asg (en := DV.int) (env' := fun (x11 : Int) => [some (Val.d (eR a0)), some (Val.d ((eT DV.int) a1)), some (Val.d (DV.int a2)), some (Val.d ((eT DV.int) s9.1)), some (Val.r (st.length + 0)), some (Val.d (DV.int y3)), some (Val.d (DV.int x11))]) (E_ca (L_cons (E_vr rfl) (L_cons (E_vr rfl) (L_cons (E_vr rfl) L_nil))) (s_heaviest_rule (k + (0)) _ _ _ _ (hc.app (by simp [low_cL])) h16.1)) (fun _ => rfl) h16.2 ?_
    intro x11 h15
    refine S_expr (E_meAC (en := DV.int) (E_vr rfl) (getP rfl) (L_cons (E_vr rfl) L_nil) (getP rfl) h15.1 (setP rfl)) ?_
    refine S_gen (S := (fun (c12 : List Int) => (st ++ [cL DV.int c12] : IP.Store))) h15.2 ?_
    intro c12 h14
    refine S_asg0 (en := (eT DV.int)) (env' := fun (x13 : (List Int)) => [some (Val.d (eR a0)), some (Val.d ((eT DV.int) a1)), some (Val.d (DV.int a2)), some (Val.d ((eT DV.int) x13)), some (Val.r (st.length + 0)), some (Val.d (DV.int y3)), some (Val.d (DV.int x11))]) (E_ca (L_cons (E_sub (E_fld (E_vr rfl) (fldR_rows _ _)) (E_vr rfl) (item_T h14.1)) (L_cons (E_vr rfl) (L_cons (E_vr rfl) L_nil))) (s_doubled (k + (1)) _ _ _ _ (hc.app (by simp [low_cL])) h14.2)) (fun _ => rfl) ?_
    intro x13
    exact Q_fallC ((some (Val.d (DV.int x11))), (some (Val.d (DV.int y3)))) rfl rfl
  intro s9 j10 h17
  exact Q_retL (L := [cL DV.int s9.2]) (E_tu (L_cons (E_bi (L_cons (E_vr rfl) L_nil) (tuple_C (getP rfl))) (L_cons (E_vr rfl) L_nil)) rfl (leLim rfl))
def v_taken (a0 : (Int × List (List Int))) (a1 : (List Int)) (a2 : Int) : (List Int) := (v_play a0 a1 a2).1
def ok_taken (a0 : (Int × List (List Int))) (a1 : (List Int)) (a2 : Int) : Prop := ((ok_look_at_rounds a0 a1 a2)) ∧ (((ok_play a0 a1 a2)))
theorem s_taken (k : Nat) (a0 : (Int × List (List Int))) (a1 : (List Int)) (a2 : Int) (st : Store) (hc : Closed st) (h : ok_taken a0 a1 a2) : callF G 1000000 (k + 6) ("taken", none) [.d (eR a0), .d ((eT DV.int) a1), .d (DV.int a2)] (st) = .ok (.d ((eT DV.int) (v_taken a0 a1 a2))) (st) := by
  refine (q_taken (k + 5) (.d (eR a0)) (.d ((eT DV.int) a1)) (.d (DV.int a2)) _).trans ?_
  refine fn_end (rv := fun w => (.d ((eT DV.int) w), st)) (w := v_taken a0 a1 a2) ?_ rfl rfl hc
  show RetS _ (b_taken (callF G 1000000 (k + 5)) [some (Val.d (eR a0)), some (Val.d ((eT DV.int) a1)), some (Val.d (DV.int a2))] (st)) _
  unfold ok_taken at h
  unfold v_taken b_taken
  refine S_expr (E_ca (L_cons (E_vr rfl) (L_cons (E_vr rfl) (L_cons (E_vr rfl) L_nil))) (s_look_at_rounds (k + (0)) _ _ _ _ hc h.1)) ?_
  exact Q_ret0 (E_sub (E_ca (L_cons (E_vr rfl) (L_cons (E_vr rfl) (L_cons (E_vr rfl) L_nil))) (s_play (k + (2)) _ _ _ _ hc h.2)) E_pu rfl)
def v_weights_behind (a0 : (Int × List (List Int))) (a1 : (List Int)) (a2 : Int) : (List Int) := (v_play a0 a1 a2).2
def ok_weights_behind (a0 : (Int × List (List Int))) (a1 : (List Int)) (a2 : Int) : Prop := ((ok_look_at_rounds a0 a1 a2)) ∧ (((ok_play a0 a1 a2)))
theorem s_weights_behind (k : Nat) (a0 : (Int × List (List Int))) (a1 : (List Int)) (a2 : Int) (st : Store) (hc : Closed st) (h : ok_weights_behind a0 a1 a2) : callF G 1000000 (k + 6) ("weights_behind", none) [.d (eR a0), .d ((eT DV.int) a1), .d (DV.int a2)] (st) = .ok (.d ((eT DV.int) (v_weights_behind a0 a1 a2))) (st) := by
  refine (q_weights_behind (k + 5) (.d (eR a0)) (.d ((eT DV.int) a1)) (.d (DV.int a2)) _).trans ?_
  refine fn_end (rv := fun w => (.d ((eT DV.int) w), st)) (w := v_weights_behind a0 a1 a2) ?_ rfl rfl hc
  show RetS _ (b_weights_behind (callF G 1000000 (k + 5)) [some (Val.d (eR a0)), some (Val.d ((eT DV.int) a1)), some (Val.d (DV.int a2))] (st)) _
  unfold ok_weights_behind at h
  unfold v_weights_behind b_weights_behind
  refine S_expr (E_ca (L_cons (E_vr rfl) (L_cons (E_vr rfl) (L_cons (E_vr rfl) L_nil))) (s_look_at_rounds (k + (0)) _ _ _ _ hc h.1)) ?_
  exact Q_ret0 (E_sub (E_ca (L_cons (E_vr rfl) (L_cons (E_vr rfl) (L_cons (E_vr rfl) L_nil))) (s_play (k + (2)) _ _ _ _ hc h.2)) E_pu rfl)
def v_Rules___len__ (a0 : (Int × List (List Int))) : Int := (a0.2.length : Int)
theorem s_Rules___len__ (k : Nat) (a0 : (Int × List (List Int))) (st : Store) (hc : Closed st) : callF G 1000000 (k + 1) ("Rules", (some "__len__")) [.d (eR a0)] (st) = .ok (.d (DV.int (v_Rules___len__ a0))) (st) := by
  refine (q_Rules___len__ (k + 0) (.d (eR a0)) _).trans ?_
  refine fn_end (rv := fun w => (.d (DV.int w), st)) (w := v_Rules___len__ a0) ?_ rfl rfl hc
  show RetS _ (b_Rules___len__ (callF G 1000000 (k + 0)) [some (Val.d (eR a0))] (st)) _
  unfold v_Rules___len__ b_Rules___len__
  exact Q_ret0 (E_len (E_fld (E_vr rfl) (fldR_rows _ _)) rfl len_T)
def v_is_number_below (a0 : Int) (a1 : Int) : Bool := ((v_is_integer a0) && ((decide ((0 : Int) ≤ a0)) && (decide (a0 < a1))))
theorem s_is_number_below (k : Nat) (a0 : Int) (a1 : Int) (st : Store) (hc : Closed st) : callF G 1000000 (k + 2) ("is_number_below", none) [.d (DV.int a0), .d (DV.int a1)] (st) = .ok (.d (DV.bl (v_is_number_below a0 a1))) (st) := by
  refine (q_is_number_below (k + 1) (.d (DV.int a0)) (.d (DV.int a1)) _).trans ?_
  refine fn_end (rv := fun w => (.d (DV.bl w), st)) (w := v_is_number_below a0 a1) ?_ rfl rfl hc
  show RetS _ (b_is_number_below (callF G 1000000 (k + 1)) [some (Val.d (DV.int a0)), some (Val.d (DV.int a1))] (st)) _
  unfold v_is_number_below b_is_number_below
  exact Q_ret0 (E_and (E_ca (L_cons (E_vr rfl) L_nil) (s_is_integer (k + (0)) _ _ hc)) (fun _ => rfl) (fun hc2 => (E_bo1 (E_cmp2 E_pu (E_vr rfl) rfl (fun hc1 => (E_vr rfl)) rfl))))
def v_all_below (a0 : (List Int)) (a1 : Int) : Bool := (decide ((((a0.filter fun (y1 : Int) => (!(v_is_number_below y1 a1))).map fun (y1 : Int) => y1).length : Int) = (0 : Int)))
def ok_all_below (a0 : (List Int)) (a1 : Int) : Prop := (((a0.length ≤ lim)))
theorem s_all_below (k : Nat) (a0 : (List Int)) (a1 : Int) (st : Store) (hc : Closed st) (h : ok_all_below a0 a1) : callF G 1000000 (k + 3) ("all_below", none) [.d ((eT DV.int) a0), .d (DV.int a1)] (st) = .ok (.d (DV.bl (v_all_below a0 a1))) (st) := by
  refine (q_all_below (k + 2) (.d ((eT DV.int) a0)) (.d (DV.int a1)) _).trans ?_
  refine fn_end (rv := fun w => (.d (DV.bl w), st)) (w := v_all_below a0 a1) ?_ rfl rfl hc
  show RetS _ (b_all_below (callF G 1000000 (k + 2)) [some (Val.d ((eT DV.int) a0)), some (Val.d (DV.int a1)), none] (st)) _
  unfold ok_all_below at h
  unfold v_all_below b_all_below
  exact Q_ret0 (E_cmp (E_len (E_lc (en := DV.int) (f := fun (y1 : Int) => Val.d (DV.int y1)) (e := fun (y1 : Int) => ([some (Val.d ((eT DV.int) a0)), some (Val.d (DV.int a1)), some (Val.d (DV.int y1))] : IP.Env)) (p := fun (y1 : Int) => (!(v_is_number_below y1 a1))) (g := fun (y1 : Int) => y1) (W_genT (E_vr rfl)) h (fun _ => rfl) (fun y1 hmy1 => (T_not (T_bl (E_ca (L_cons (E_vr rfl) (L_cons (E_vr rfl) L_nil)) (s_is_number_below (k + (0)) _ _ _ hc))))) (fun y1 hmy1 hpy1 => (E_vr rfl))) rfl len_L) E_pu rfl)
def v_are_numbers_below (a0 : (List Int)) (a1 : Int) : Bool := (true && (v_all_below a0 a1))
def ok_are_numbers_below (a0 : (List Int)) (a1 : Int) : Prop := (true = true → (ok_all_below a0 a1))
theorem s_are_numbers_below (k : Nat) (a0 : (List Int)) (a1 : Int) (st : Store) (hc : Closed st) (h : ok_are_numbers_below a0 a1) : callF G 1000000 (k + 4) ("are_numbers_below", none) [.d ((eT DV.int) a0), .d (DV.int a1)] (st) = .ok (.d (DV.bl (v_are_numbers_below a0 a1))) (st) := by
  refine (q_are_numbers_below (k + 3) (.d ((eT DV.int) a0)) (.d (DV.int a1)) _).trans ?_
  refine fn_end (rv := fun w => (.d (DV.bl w), st)) (w := v_are_numbers_below a0 a1) ?_ rfl rfl hc
  show RetS _ (b_are_numbers_below (callF G 1000000 (k + 3)) [some (Val.d ((eT DV.int) a0)), some (Val.d (DV.int a1))] (st)) _
  unfold ok_are_numbers_below at h
  unfold v_are_numbers_below b_are_numbers_below
  exact Q_ret0 (E_and (E_bi (L_cons (E_vr rfl) (L_cons E_pu L_nil)) rfl) (fun _ => rfl) (fun hc1 => (E_bo1 (E_ca (L_cons (E_vr rfl) (L_cons (E_vr rfl) L_nil)) (s_all_below (k + (0)) _ _ _ hc (h hc1))))))
def v_look_at_numbers (a0 : (Int × List (List Int))) (a1 : (List Int)) : Unit := ()
def ok_look_at_numbers (a0 : (Int × List (List Int))) (a1 : (List Int)) : Prop := ((((((a0.2.length : Int) < 2 ^ 63)) ∧ (ok_are_numbers_below a1 (a0.2.length : Int))))) ∧ ((!(v_are_numbers_below a1 (a0.2.length : Int))) = false)
theorem s_look_at_numbers (k : Nat) (a0 : (Int × List (List Int))) (a1 : (List Int)) (st : Store) (hc : Closed st) (h : ok_look_at_numbers a0 a1) : callF G 1000000 (k + 5) ("look_at_numbers", none) [.d (eR a0), .d ((eT DV.int) a1)] (st) = .ok (.d (eN (v_look_at_numbers a0 a1))) (st) := by
  refine (q_look_at_numbers (k + 4) (.d (eR a0)) (.d ((eT DV.int) a1)) _).trans ?_
  refine fn_end (rv := fun w => (.d (eN w), st)) (w := v_look_at_numbers a0 a1) ?_ rfl rfl hc
  show RetS _ (b_look_at_numbers (callF G 1000000 (k + 4)) [some (Val.d (eR a0)), some (Val.d ((eT DV.int) a1))] (st)) _
  unfold ok_look_at_numbers at h
  unfold v_look_at_numbers b_look_at_numbers
  refine S_ifN (s1 := st) (T_not (T_bl (E_ca (L_cons (E_vr rfl) (L_cons (E_lenK (E_vr rfl) rfl (s_Rules___len__ (k + (3)) _ _ hc) ⟨Int.natCast_nonneg _, h.1.1⟩) L_nil)) (s_are_numbers_below (k + (0)) _ _ _ hc h.1.2)))) h.2 ?_
  exact Q_next0 rfl rfl
def v_wrong_at (a0 : (Int × List (List Int))) (a1 : (List Int)) (a2 : (List Int)) (a3 : Int) : Int := (((a2.filter fun (y1 : Int) => (!(decide ((ix (ix a0.2 y1) a3) = (ix a1 a3))))).map fun (y1 : Int) => y1).length : Int)
def ok_wrong_at (a0 : (Int × List (List Int))) (a1 : (List Int)) (a2 : (List Int)) (a3 : Int) : Prop := ((a2.length ≤ lim) ∧ (∀ y1 ∈ a2, ((((IP.inR a0.2.length y1)) ∧ (IP.inR (ix a0.2 y1).length a3)) ∧ ((IP.inR a1.length a3)))))
theorem s_wrong_at (k : Nat) (a0 : (Int × List (List Int))) (a1 : (List Int)) (a2 : (List Int)) (a3 : Int) (st : Store) (hc : Closed st) (h : ok_wrong_at a0 a1 a2 a3) : callF G 1000000 (k + 1) ("wrong_at", none) [.d (eR a0), .d ((eT DV.int) a1), .d ((eT DV.int) a2), .d (DV.int a3)] (st) = .ok (.d (DV.int (v_wrong_at a0 a1 a2 a3))) (st) := by
  refine (q_wrong_at (k + 0) (.d (eR a0)) (.d ((eT DV.int) a1)) (.d ((eT DV.int) a2)) (.d (DV.int a3)) _).trans ?_
  refine fn_end (rv := fun w => (.d (DV.int w), st)) (w := v_wrong_at a0 a1 a2 a3) ?_ rfl rfl hc
  show RetS _ (b_wrong_at (callF G 1000000 (k + 0)) [some (Val.d (eR a0)), some (Val.d ((eT DV.int) a1)), some (Val.d ((eT DV.int) a2)), some (Val.d (DV.int a3)), none] (st)) _
  unfold ok_wrong_at at h
  unfold v_wrong_at b_wrong_at
  exact Q_ret0 (E_len (E_lc (en := DV.int) (f := fun (y1 : Int) => Val.d (DV.int y1)) (e := fun (y1 : Int) => ([some (Val.d (eR a0)), some (Val.d ((eT DV.int) a1)), some (Val.d ((eT DV.int) a2)), some (Val.d (DV.int a3)), some (Val.d (DV.int y1))] : IP.Env)) (p := fun (y1 : Int) => (!(decide ((ix (ix a0.2 y1) a3) = (ix a1 a3))))) (g := fun (y1 : Int) => y1) (W_genT (E_vr rfl)) h.1 (fun _ => rfl) (fun y1 hmy1 => (T_cmp (E_sub (E_sub (E_fld (E_vr rfl) (fldR_rows _ _)) (E_vr rfl) (item_T (h.2 y1 hmy1).1.1)) (E_vr rfl) (item_T (h.2 y1 hmy1).1.2)) (E_sub (E_vr rfl) (E_vr rfl) (item_T (h.2 y1 hmy1).2)) rfl)) (fun y1 hmy1 hpy1 => (E_vr rfl))) rfl len_L)
def v_wrong_counts (a0 : (Int × List (List Int))) (a1 : (List Int)) (a2 : (List Int)) : (List Int) := ((irange (0 : Int) a0.1).map fun (y1 : Int) => (v_wrong_at a0 a1 a2 y1))
def ok_wrong_counts (a0 : (Int × List (List Int))) (a1 : (List Int)) (a2 : (List Int)) : Prop := ((ok_Rules_look_at_row a0 a1)) ∧ (((ok_look_at_numbers a0 a2)) ∧ ((((small62 a0.1 = true)) ∧ ((irange (0 : Int) a0.1).length ≤ lim) ∧ (∀ y1 ∈ (irange (0 : Int) a0.1), ((ok_wrong_at a0 a1 a2 y1))))))
theorem s_wrong_counts (k : Nat) (a0 : (Int × List (List Int))) (a1 : (List Int)) (a2 : (List Int)) (st : Store) (hc : Closed st) (h : ok_wrong_counts a0 a1 a2) : callF G 1000000 (k + 6) ("wrong_counts", none) [.d (eR a0), .d ((eT DV.int) a1), .d ((eT DV.int) a2)] (st) = .ok (.d ((eT DV.int) (v_wrong_counts a0 a1 a2))) (st) := by
  refine (q_wrong_counts (k + 5) (.d (eR a0)) (.d ((eT DV.int) a1)) (.d ((eT DV.int) a2)) _).trans ?_
  refine fn_end (rv := fun w => (.d ((eT DV.int) w), st)) (w := v_wrong_counts a0 a1 a2) ?_ rfl rfl hc
  show RetS _ (b_wrong_counts (callF G 1000000 (k + 5)) [some (Val.d (eR a0)), some (Val.d ((eT DV.int) a1)), some (Val.d ((eT DV.int) a2)), none] (st)) _
  unfold ok_wrong_counts at h
  unfold v_wrong_counts b_wrong_counts
  refine S_expr (E_me (E_vr rfl) rfl hm_look_at_row (L_cons (E_vr rfl) L_nil) (s_Rules_look_at_row (k + (1))  _ _ _ hc h.1)) ?_
  refine S_expr (E_ca (L_cons (E_vr rfl) (L_cons (E_vr rfl) L_nil)) (s_look_at_numbers (k + (0)) _ _ _ hc h.2.1)) ?_
  exact Q_ret0 (E_bi (L_cons (E_lc0 (en := DV.int) (f := fun (y1 : Int) => Val.d (DV.int y1)) (e := fun (y1 : Int) => ([some (Val.d (eR a0)), some (Val.d ((eT DV.int) a1)), some (Val.d ((eT DV.int) a2)), some (Val.d (DV.int y1))] : IP.Env)) (g := fun (y1 : Int) => (v_wrong_at a0 a1 a2 y1)) (W_rng1 (E_fld (E_vr rfl) (fldR_size _ _)) h.2.2.1) h.2.2.2.1 (fun _ => rfl) (fun y1 hmy1 => (E_ca (L_cons (E_vr rfl) (L_cons (E_vr rfl) (L_cons (E_vr rfl) (L_cons (E_vr rfl) L_nil)))) (s_wrong_at (k + (4)) _ _ _ _ _ hc (h.2.2.2.2 y1 hmy1))))) L_nil) tuple_L)
def v__law_wrong (a0 : (List (List Int))) (a1 : (List Int)) (a2 : (List Int)) : (List Int) := ((irange (0 : Int) (a1.length : Int)).map fun (y1 : Int) => (((a2.filter fun (y2 : Int) => (!(decide ((ix (ix a0 y2) y1) = (ix a1 y1))))).map fun (y2 : Int) => y2).length : Int))
def ok__law_wrong (a0 : (List (List Int))) (a1 : (List Int)) (a2 : (List Int)) : Prop := (((small62 (a1.length : Int) = true)) ∧ ((irange (0 : Int) (a1.length : Int)).length ≤ lim) ∧ (∀ y1 ∈ (irange (0 : Int) (a1.length : Int)), (((a2.length ≤ lim) ∧ (∀ y2 ∈ a2, ((((IP.inR a0.length y2)) ∧ (IP.inR (ix a0 y2).length y1)) ∧ ((IP.inR a1.length y1))))))))
theorem s__law_wrong (k : Nat) (a0 : (List (List Int))) (a1 : (List Int)) (a2 : (List Int)) (st : Store) (hc : Closed st) (h : ok__law_wrong a0 a1 a2) : callF G 1000000 (k + 1) ("_law_wrong", none) [.d ((eL (eT DV.int)) a0), .d ((eT DV.int) a1), .d ((eT DV.int) a2)] (st) = .ok (.d ((eT DV.int) (v__law_wrong a0 a1 a2))) (st) := by
  refine (q__law_wrong (k + 0) (.d ((eL (eT DV.int)) a0)) (.d ((eT DV.int) a1)) (.d ((eT DV.int) a2)) _).trans ?_
  refine fn_end (rv := fun w => (.d ((eT DV.int) w), st)) (w := v__law_wrong a0 a1 a2) ?_ rfl rfl hc
  show RetS _ (b__law_wrong (callF G 1000000 (k + 0)) [some (Val.d ((eL (eT DV.int)) a0)), some (Val.d ((eT DV.int) a1)), some (Val.d ((eT DV.int) a2)), none, none] (st)) _
  unfold ok__law_wrong at h
  unfold v__law_wrong b__law_wrong
  exact Q_ret0 (E_bi (L_cons (E_lc0 (en := DV.int) (f := fun (y1 : Int) => Val.d (DV.int y1)) (e := fun (y1 : Int) => ([some (Val.d ((eL (eT DV.int)) a0)), some (Val.d ((eT DV.int) a1)), some (Val.d ((eT DV.int) a2)), some (Val.d (DV.int y1)), none] : IP.Env)) (g := fun (y1 : Int) => (((a2.filter fun (y2 : Int) => (!(decide ((ix (ix a0 y2) y1) = (ix a1 y1))))).map fun (y2 : Int) => y2).length : Int)) (W_rng1 (E_len (E_vr rfl) rfl len_T) h.1) h.2.1 (fun _ => rfl) (fun y1 hmy1 => (E_len (E_lc (en := DV.int) (f := fun (y2 : Int) => Val.d (DV.int y2)) (e := fun (y2 : Int) => ([some (Val.d ((eL (eT DV.int)) a0)), some (Val.d ((eT DV.int) a1)), some (Val.d ((eT DV.int) a2)), some (Val.d (DV.int y1)), some (Val.d (DV.int y2))] : IP.Env)) (p := fun (y2 : Int) => (!(decide ((ix (ix a0 y2) y1) = (ix a1 y1))))) (g := fun (y2 : Int) => y2) (W_genT (E_vr rfl)) (h.2.2 y1 hmy1).1 (fun _ => rfl) (fun y2 hmy2 => (T_cmp (E_sub (E_sub (E_vr rfl) (E_vr rfl) (item_L ((h.2.2 y1 hmy1).2 y2 hmy2).1.1)) (E_vr rfl) (item_T ((h.2.2 y1 hmy1).2 y2 hmy2).1.2)) (E_sub (E_vr rfl) (E_vr rfl) (item_T ((h.2.2 y1 hmy1).2 y2 hmy2).2)) rfl)) (fun y2 hmy2 hpy2 => (E_vr rfl))) rfl len_L))) L_nil) tuple_L)
def v_yes_at (a0 : (Int × List (List Int))) (a1 : (List Int)) (a2 : Int) : Int := (a1.map fun (y1 : Int) => (ix (ix a0.2 y1) a2)).sum
def ok_yes_at (a0 : (Int × List (List Int))) (a1 : (List Int)) (a2 : Int) : Prop := ((a1.length ≤ lim) ∧ (∀ y1 ∈ a1, (((IP.inR a0.2.length y1)) ∧ (IP.inR (ix a0.2 y1).length a2))))
theorem s_yes_at (k : Nat) (a0 : (Int × List (List Int))) (a1 : (List Int)) (a2 : Int) (st : Store) (hc : Closed st) (h : ok_yes_at a0 a1 a2) : callF G 1000000 (k + 1) ("yes_at", none) [.d (eR a0), .d ((eT DV.int) a1), .d (DV.int a2)] (st) = .ok (.d (DV.int (v_yes_at a0 a1 a2))) (st) := by
  refine (q_yes_at (k + 0) (.d (eR a0)) (.d ((eT DV.int) a1)) (.d (DV.int a2)) _).trans ?_
  refine fn_end (rv := fun w => (.d (DV.int w), st)) (w := v_yes_at a0 a1 a2) ?_ rfl rfl hc
  show RetS _ (b_yes_at (callF G 1000000 (k + 0)) [some (Val.d (eR a0)), some (Val.d ((eT DV.int) a1)), some (Val.d (DV.int a2)), none] (st)) _
  unfold ok_yes_at at h
  unfold v_yes_at b_yes_at
  exact Q_ret0 (E_bi (L_cons (E_lc0 (en := DV.int) (f := fun (y1 : Int) => Val.d (DV.int y1)) (e := fun (y1 : Int) => ([some (Val.d (eR a0)), some (Val.d ((eT DV.int) a1)), some (Val.d (DV.int a2)), some (Val.d (DV.int y1))] : IP.Env)) (g := fun (y1 : Int) => (ix (ix a0.2 y1) a2)) (W_genT (E_vr rfl)) h.1 (fun _ => rfl) (fun y1 hmy1 => (E_sub (E_sub (E_fld (E_vr rfl) (fldR_rows _ _)) (E_vr rfl) (item_T (h.2 y1 hmy1).1)) (E_vr rfl) (item_T (h.2 y1 hmy1).2)))) L_nil) sum_L)
def v_voted_by (a0 : (Int × List (List Int))) (a1 : (List Int)) : (List Int) := ((irange (0 : Int) a0.1).map fun (y1 : Int) => (if (decide (((2 : Int) * (v_yes_at a0 a1 y1)) > (a1.length : Int))) then (1 : Int) else 0))
def ok_voted_by (a0 : (Int × List (List Int))) (a1 : (List Int)) : Prop := ((ok_look_at_numbers a0 a1)) ∧ ((((small62 a0.1 = true)) ∧ ((irange (0 : Int) a0.1).length ≤ lim) ∧ (∀ y1 ∈ (irange (0 : Int) a0.1), (((((ok_yes_at a0 a1 y1))))))))
theorem s_voted_by (k : Nat) (a0 : (Int × List (List Int))) (a1 : (List Int)) (st : Store) (hc : Closed st) (h : ok_voted_by a0 a1) : callF G 1000000 (k + 6) ("voted_by", none) [.d (eR a0), .d ((eT DV.int) a1)] (st) = .ok (.d ((eT DV.int) (v_voted_by a0 a1))) (st) := by
  refine (q_voted_by (k + 5) (.d (eR a0)) (.d ((eT DV.int) a1)) _).trans ?_
  refine fn_end (rv := fun w => (.d ((eT DV.int) w), st)) (w := v_voted_by a0 a1) ?_ rfl rfl hc
  show RetS _ (b_voted_by (callF G 1000000 (k + 5)) [some (Val.d (eR a0)), some (Val.d ((eT DV.int) a1)), none] (st)) _
  unfold ok_voted_by at h
  unfold v_voted_by b_voted_by
  refine S_expr (E_ca (L_cons (E_vr rfl) (L_cons (E_vr rfl) L_nil)) (s_look_at_numbers (k + (0)) _ _ _ hc h.1)) ?_
  exact Q_ret0 (E_bi (L_cons (E_lc0 (en := DV.int) (f := fun (y1 : Int) => Val.d (DV.int y1)) (e := fun (y1 : Int) => ([some (Val.d (eR a0)), some (Val.d ((eT DV.int) a1)), some (Val.d (DV.int y1))] : IP.Env)) (g := fun (y1 : Int) => (if (decide (((2 : Int) * (v_yes_at a0 a1 y1)) > (a1.length : Int))) then (1 : Int) else 0)) (W_rng1 (E_fld (E_vr rfl) (fldR_size _ _)) h.2.1) h.2.2.1 (fun _ => rfl) (fun y1 hmy1 => (E_bi (L_cons (E_cmp (E_bin E_pu (E_ca (L_cons (E_vr rfl) (L_cons (E_vr rfl) (L_cons (E_vr rfl) L_nil))) (s_yes_at (k + (4)) _ _ _ _ hc (h.2.2.2 y1 hmy1))) (bin_mulL (by decide))) (E_len (E_vr rfl) rfl len_T) rfl) L_nil) int_b))) L_nil) tuple_L)
def v__law_voted (a0 : (List (List Int))) (a1 : Int) (a2 : (List Int)) : (List Int) := (lt (((irange (0 : Int) a1).map fun (y1 : Int) => (a2.map fun (y2 : Int) => (ix (ix a0 y2) y1)).sum) : (List Int)) fun (x3 : (List Int)) => (x3.map fun (y4 : Int) => (if (decide (((2 : Int) * y4) > (a2.length : Int))) then (1 : Int) else (0 : Int))))
def ok__law_voted (a0 : (List (List Int))) (a1 : Int) (a2 : (List Int)) : Prop := (((small62 a1 = true)) ∧ ((irange (0 : Int) a1).length ≤ lim) ∧ (∀ y1 ∈ (irange (0 : Int) a1), (((a2.length ≤ lim) ∧ (∀ y2 ∈ a2, (((IP.inR a0.length y2)) ∧ (IP.inR (ix a0 y2).length y1))))))) ∧ (lt (((irange (0 : Int) a1).map fun (y1 : Int) => (a2.map fun (y2 : Int) => (ix (ix a0 y2) y1)).sum) : (List Int)) fun (x3 : (List Int)) => ((x3.length ≤ lim)))
theorem s__law_voted (k : Nat) (a0 : (List (List Int))) (a1 : Int) (a2 : (List Int)) (st : Store) (hc : Closed st) (h : ok__law_voted a0 a1 a2) : callF G 1000000 (k + 1) ("_law_voted", none) [.d ((eL (eT DV.int)) a0), .d (DV.int a1), .d ((eT DV.int) a2)] (st) = .ok (.d ((eT DV.int) (v__law_voted a0 a1 a2))) (st) := by
  refine (q__law_voted (k + 0) (.d ((eL (eT DV.int)) a0)) (.d (DV.int a1)) (.d ((eT DV.int) a2)) _).trans ?_
  refine fn_end (rv := fun w => (.d ((eT DV.int) w), st)) (w := v__law_voted a0 a1 a2) ?_ rfl rfl hc
  show RetS _ (b__law_voted (callF G 1000000 (k + 0)) [some (Val.d ((eL (eT DV.int)) a0)), some (Val.d (DV.int a1)), some (Val.d ((eT DV.int) a2)), none, none, none, none] (st)) _
  unfold ok__law_voted at h
  unfold v__law_voted b__law_voted
  refine S_asg (en := (eL DV.int)) (env' := fun (x3 : (List Int)) => [some (Val.d ((eL (eT DV.int)) a0)), some (Val.d (DV.int a1)), some (Val.d ((eT DV.int) a2)), some (Val.d ((eL DV.int) x3)), none, none, none]) (E_lc0 (en := DV.int) (f := fun (y1 : Int) => Val.d (DV.int y1)) (e := fun (y1 : Int) => ([some (Val.d ((eL (eT DV.int)) a0)), some (Val.d (DV.int a1)), some (Val.d ((eT DV.int) a2)), none, some (Val.d (DV.int y1)), none, none] : IP.Env)) (g := fun (y1 : Int) => (a2.map fun (y2 : Int) => (ix (ix a0 y2) y1)).sum) (W_rng1 (E_vr rfl) h.1.1) h.1.2.1 (fun _ => rfl) (fun y1 hmy1 => (E_bi (L_cons (E_lc0 (en := DV.int) (f := fun (y2 : Int) => Val.d (DV.int y2)) (e := fun (y2 : Int) => ([some (Val.d ((eL (eT DV.int)) a0)), some (Val.d (DV.int a1)), some (Val.d ((eT DV.int) a2)), none, some (Val.d (DV.int y1)), none, some (Val.d (DV.int y2))] : IP.Env)) (g := fun (y2 : Int) => (ix (ix a0 y2) y1)) (W_genT (E_vr rfl)) (h.1.2.2 y1 hmy1).1 (fun _ => rfl) (fun y2 hmy2 => (E_sub (E_sub (E_vr rfl) (E_vr rfl) (item_L ((h.1.2.2 y1 hmy1).2 y2 hmy2).1)) (E_vr rfl) (item_T ((h.1.2.2 y1 hmy1).2 y2 hmy2).2)))) L_nil) sum_L))) (fun _ => rfl) h.2 ?_
  intro x3 h6
  exact Q_ret0 (E_bi (L_cons (E_lc0 (en := DV.int) (f := fun (y4 : Int) => Val.d (DV.int y4)) (e := fun (y4 : Int) => ([some (Val.d ((eL (eT DV.int)) a0)), some (Val.d (DV.int a1)), some (Val.d ((eT DV.int) a2)), some (Val.d ((eL DV.int) x3)), none, some (Val.d (DV.int y4)), none] : IP.Env)) (g := fun (y4 : Int) => (if (decide (((2 : Int) * y4) > (a2.length : Int))) then (1 : Int) else (0 : Int))) (W_genL (E_vr rfl)) h6 (fun _ => rfl) (fun y4 hmy4 => (E_if (en := DV.int) (T_cmp (E_bin E_pu (E_vr rfl) (bin_mulL (by decide))) (E_len (E_vr rfl) rfl len_T) rfl) (fun hc5 => E_pu) (fun hc5 => E_pu)))) L_nil) tuple_L)
def v__law_counted (a0 : (Int × List (List Int))) (a1 : (List (List Int))) (a2 : (List Int)) (a3 : (List Int)) : Bool := (if (!true) then false else true)
def ok__law_counted (a0 : (Int × List (List Int))) (a1 : (List (List Int))) (a2 : (List Int)) (a3 : (List Int)) : Prop := (((((ok_wrong_counts a0 a2 a3)) ∧ ((ok__law_wrong a1 a2 a3)) ∧ (okSame ((eT DV.int) (v_wrong_counts a0 a2 a3)) ((eT DV.int) (v__law_wrong a1 a2 a3)))))) ∧ ((!true) = false → ((ok_voted_by a0 a3)) ∧ ((ok__law_voted a1 (a2.length : Int) a3)) ∧ (okSame ((eT DV.int) (v_voted_by a0 a3)) ((eT DV.int) (v__law_voted a1 (a2.length : Int) a3))))
theorem s__law_counted (k : Nat) (a0 : (Int × List (List Int))) (a1 : (List (List Int))) (a2 : (List Int)) (a3 : (List Int)) (st : Store) (hc : Closed st) (h : ok__law_counted a0 a1 a2 a3) : callF G 1000000 (k + 8) ("_law_counted", none) [.d (eR a0), .d ((eL (eT DV.int)) a1), .d ((eT DV.int) a2), .d ((eT DV.int) a3)] (st) = .ok (.d (DV.bl (v__law_counted a0 a1 a2 a3))) (st) := by
  refine (q__law_counted (k + 7) (.d (eR a0)) (.d ((eL (eT DV.int)) a1)) (.d ((eT DV.int) a2)) (.d ((eT DV.int) a3)) _).trans ?_
  refine fn_end (rv := fun w => (.d (DV.bl w), st)) (w := v__law_counted a0 a1 a2 a3) ?_ rfl rfl hc
  show RetS _ (b__law_counted (callF G 1000000 (k + 7)) [some (Val.d (eR a0)), some (Val.d ((eL (eT DV.int)) a1)), some (Val.d ((eT DV.int) a2)), some (Val.d ((eT DV.int) a3))] (st)) _
  unfold ok__law_counted at h
  unfold v__law_counted b__law_counted
  refine S_if (s1 := st) (T_not (T_bl (E_ca (L_cons (E_ca (L_cons (E_vr rfl) (L_cons (E_vr rfl) (L_cons (E_vr rfl) L_nil))) (s_wrong_counts (k + (1)) _ _ _ _ hc h.1.1)) (L_cons (E_ca (L_cons (E_vr rfl) (L_cons (E_vr rfl) (L_cons (E_vr rfl) L_nil))) (s__law_wrong (k + (6)) _ _ _ _ hc h.1.2.1)) L_nil)) (s__law_same (k + (0)) _ _ _ hc h.1.2.2)))) (fun h1 => ?_) (fun h1 => ?_)
  · exact Q_ret0 E_pu
  · have h1k := h.2 h1
    exact Q_ret0 (E_ca (L_cons (E_ca (L_cons (E_vr rfl) (L_cons (E_vr rfl) L_nil)) (s_voted_by (k + (1)) _ _ _ hc h1k.1)) (L_cons (E_ca (L_cons (E_vr rfl) (L_cons (E_len (E_vr rfl) rfl len_T) (L_cons (E_vr rfl) L_nil))) (s__law_voted (k + (6)) _ _ _ _ hc h1k.2.1)) L_nil)) (s__law_same (k + (0)) _ _ _ hc h1k.2.2))
def v__law_numbers (b : GBox) (a1 : (List (List Int))) : (List Int) × GBox := (lt ((a1.length : Int) : Int) fun (x1 : Int) => (lt ((mapS (fun (y2 : Int) (b3 : GBox) => ((drawV b3 x1).1, (drawV b3 x1).2)) (irange (0 : Int) (drawV b (13 : Int)).1) (drawV b (13 : Int)).2).1 : List Int) fun c4 => (lt (mapS (fun (y2 : Int) (b3 : GBox) => ((drawV b3 x1).1, (drawV b3 x1).2)) (irange (0 : Int) (drawV b (13 : Int)).1) (drawV b (13 : Int)).2).2 fun (b5 : GBox) => (if ((decide ((drawV b5 (3 : Int)).1 > (0 : Int))) || (decide (((ix a1 (0 : Int)).length : Int) = (0 : Int)))) then (lt (drawV b5 (3 : Int)).2 fun (b7 : GBox) => (c4, b7)) else (lt (drawV b5 (3 : Int)).2 fun (b9 : GBox) => (lt ((drawV b9 ((ix a1 (0 : Int)).length : Int)).1 : Int) fun (x10 : Int) => (lt (drawV b9 ((ix a1 (0 : Int)).length : Int)).2 fun (b11 : GBox) => (lt ((((irange (0 : Int) x1).filter fun (y12 : Int) => (decide ((ix (ix a1 y12) x10) = (1 : Int)))).map fun (y12 : Int) => y12) : (List Int)) fun (x14 : (List Int)) => (lt ((((irange (0 : Int) x1).filter fun (y15 : Int) => (decide ((ix (ix a1 y15) x10) = (0 : Int)))).map fun (y15 : Int) => y15) : (List Int)) fun (x17 : (List Int)) => (if ((decide ((x14.length : Int) = (0 : Int))) || (decide ((x17.length : Int) = (0 : Int)))) then (c4, b11) else (lt (([] : List Int) : List Int) fun c19 => (lt ((List.foldl (fun (s29 : ((List Int) × GBox)) (y20 : Int) => (lt (drawV s29.2 (x14.length : Int)).2 fun (b31 : GBox) => (lt ((s29.1 ++ [(ix x14 (drawV s29.2 (x14.length : Int)).1)]) : List Int) fun c32 => (lt (drawV b31 (x17.length : Int)).2 fun (b33 : GBox) => (lt ((c32 ++ [(ix x17 (drawV b31 (x17.length : Int)).1)]) : List Int) fun c34 => (c34, b33)))))) (c19, (drawV b11 (4 : Int)).2) (irange (0 : Int) ((1 : Int) + (drawV b11 (4 : Int)).1))) : ((List Int) × GBox)) fun (s29 : ((List Int) × GBox)) => ((slc s29.1 (some (drawV s29.2 (2 : Int)).1) none), (drawV s29.2 (2 : Int)).2)))))))))))))
def ok__law_numbers (b : GBox) (a1 : (List (List Int))) : Prop := (lt ((a1.length : Int) : Int) fun (x1 : Int) => (((small62 (drawV b (13 : Int)).1 = true)) ∧ ((irange (0 : Int) (drawV b (13 : Int)).1).length ≤ lim) ∧ (okS (fun (y2 : Int) (b3 : GBox) => ((drawV b3 x1).1, (drawV b3 x1).2)) (fun (y2 : Int) (b3 : GBox) => (okLim x1)) (irange (0 : Int) (drawV b (13 : Int)).1) (drawV b (13 : Int)).2)) ∧ (lt ((mapS (fun (y2 : Int) (b3 : GBox) => ((drawV b3 x1).1, (drawV b3 x1).2)) (irange (0 : Int) (drawV b (13 : Int)).1) (drawV b (13 : Int)).2).1 : List Int) fun c4 => lt (mapS (fun (y2 : Int) (b3 : GBox) => ((drawV b3 x1).1, (drawV b3 x1).2)) (irange (0 : Int) (drawV b (13 : Int)).1) (drawV b (13 : Int)).2).2 fun (b5 : GBox) => (((decide ((drawV b5 (3 : Int)).1 > (0 : Int))) = false → (((IP.inR a1.length (0 : Int)))))) ∧ (((decide ((drawV b5 (3 : Int)).1 > (0 : Int))) || (decide (((ix a1 (0 : Int)).length : Int) = (0 : Int)))) = false → lt (drawV b5 (3 : Int)).2 fun (b9 : GBox) => ((((IP.inR a1.length (0 : Int)))) ∧ (okLim ((ix a1 (0 : Int)).length : Int))) ∧ (lt ((drawV b9 ((ix a1 (0 : Int)).length : Int)).1 : Int) fun (x10 : Int) => lt (drawV b9 ((ix a1 (0 : Int)).length : Int)).2 fun (b11 : GBox) => (((small62 x1 = true)) ∧ ((irange (0 : Int) x1).length ≤ lim) ∧ (∀ y12 ∈ (irange (0 : Int) x1), ((((IP.inR a1.length y12)) ∧ (IP.inR (ix a1 y12).length x10))))) ∧ (lt ((((irange (0 : Int) x1).filter fun (y12 : Int) => (decide ((ix (ix a1 y12) x10) = (1 : Int)))).map fun (y12 : Int) => y12) : (List Int)) fun (x14 : (List Int)) => (((small62 x1 = true)) ∧ ((irange (0 : Int) x1).length ≤ lim) ∧ (∀ y15 ∈ (irange (0 : Int) x1), ((((IP.inR a1.length y15)) ∧ (IP.inR (ix a1 y15).length x10))))) ∧ (lt ((((irange (0 : Int) x1).filter fun (y15 : Int) => (decide ((ix (ix a1 y15) x10) = (0 : Int)))).map fun (y15 : Int) => y15) : (List Int)) fun (x17 : (List Int)) => (((decide ((x14.length : Int) = (0 : Int))) || (decide ((x17.length : Int) = (0 : Int)))) = false → (lt (([] : List Int) : List Int) fun c19 => ((small62 ((1 : Int) + (drawV b11 (4 : Int)).1) = true)) ∧ (okFor (fun (s29 : ((List Int) × GBox)) (y20 : Int) => ((((okLim (x14.length : Int))) ∧ (IP.inR x14.length (drawV s29.2 (x14.length : Int)).1)) ∧ (s29.1.length < lim)) ∧ (lt (drawV s29.2 (x14.length : Int)).2 fun (b31 : GBox) => lt ((s29.1 ++ [(ix x14 (drawV s29.2 (x14.length : Int)).1)]) : List Int) fun c32 => ((((okLim (x17.length : Int))) ∧ (IP.inR x17.length (drawV b31 (x17.length : Int)).1)) ∧ (c32.length < lim)))) (fun (s29 : ((List Int) × GBox)) (y20 : Int) => (lt (drawV s29.2 (x14.length : Int)).2 fun (b31 : GBox) => (lt ((s29.1 ++ [(ix x14 (drawV s29.2 (x14.length : Int)).1)]) : List Int) fun c32 => (lt (drawV b31 (x17.length : Int)).2 fun (b33 : GBox) => (lt ((c32 ++ [(ix x17 (drawV b31 (x17.length : Int)).1)]) : List Int) fun c34 => (c34, b33)))))) (c19, (drawV b11 (4 : Int)).2) (irange (0 : Int) ((1 : Int) + (drawV b11 (4 : Int)).1)))))))))))
theorem s__law_numbers (k : Nat) (b : GBox) (a1 : (List (List Int))) (r : Store) (hc : ∀ b, Closed (bx b :: r)) (h : ok__law_numbers b a1) : callF G 1000000 (k + 2) ("_law_numbers", none) [.r 0, .d ((eL (eT DV.int)) a1)] (bx b :: r) = .ok (.d ((eT DV.int) (v__law_numbers b a1).1)) (bx (v__law_numbers b a1).2 :: r) := by
  refine (q__law_numbers (k + 1) (.r 0) (.d ((eL (eT DV.int)) a1)) _).trans ?_
  refine fn_end (rv := fun w => (.d ((eT DV.int) w.1), bx w.2 :: r)) (w := v__law_numbers b a1) ?_ rfl rfl (hc _)
  show RetS _ (b__law_numbers (callF G 1000000 (k + 1)) [some (Val.r 0), some (Val.d ((eL (eT DV.int)) a1)), none, none, none, none, none, none] (bx b :: r)) _
  unfold ok__law_numbers at h
  unfold v__law_numbers b__law_numbers
  refine S_asg (en := DV.int) (env' := fun (x1 : Int) => [some (Val.r 0), some (Val.d ((eL (eT DV.int)) a1)), some (Val.d (DV.int x1)), none, none, none, none, none]) (E_len (E_vr rfl) rfl len_L) (fun _ => rfl) h ?_
  intro x1 h51
  refine S_asgv (env' := [some (Val.r 0), some (Val.d ((eL (eT DV.int)) a1)), some (Val.d (DV.int x1)), some (Val.r (r.length + 1 + 0)), none, none, none, none]) (E_lccSE (en := DV.int) (S := (fun (b : GBox) => bx b :: r)) (f := fun (y2 : Int) => Val.d (DV.int y2)) (e := fun (y2 : Int) => ([some (Val.r 0), some (Val.d ((eL (eT DV.int)) a1)), some (Val.d (DV.int x1)), none, none, none, none, some (Val.d (DV.int y2))] : IP.Env)) (g := (fun (y2 : Int) (b3 : GBox) => ((drawV b3 x1).1, (drawV b3 x1).2))) (ok := (fun (y2 : Int) (b3 : GBox) => (okLim x1))) (W_rng1 (E_ca (L_cons (E_vr rfl) (L_cons E_pu L_nil)) (s__law_draw (k + (0)) _ _ _ hc (okLim_lit (by decide) (by decide)))) h51.1.1) h51.1.2.1 (fun _ => rfl) (fun y2 hmy2 b3 hky2 => (E_ca (L_cons (E_vr rfl) (L_cons (E_vr rfl) L_nil)) (s__law_draw (k + (0)) _ _ _ hc hky2))) h51.1.2.2 rfl rfl) rfl ?_
  refine S_gen (S := (fun (c4 : List Int) => (bx (mapS (fun (y2 : Int) (b3 : GBox) => ((drawV b3 x1).1, (drawV b3 x1).2)) (irange (0 : Int) (drawV b (13 : Int)).1) (drawV b (13 : Int)).2).2 :: (r ++ [cL DV.int c4]) : IP.Store))) h51.2 ?_
  intro c4 h50
  refine S_gen (S := (fun (b5 : GBox) => (bx b5 :: (r ++ [cL DV.int c4]) : IP.Store))) h50 ?_
  intro b5 h49
  refine S_if (s1 := bx (drawV b5 (3 : Int)).2 :: (r ++ [cL DV.int c4])) (T_or (T_cmp (E_ca (L_cons (E_vr rfl) (L_cons E_pu L_nil)) (s__law_draw (k + (0)) _ _ _ (closedB hc (by simp [low_cL])) (okLim_lit (by decide) (by decide)))) E_pu rfl) (fun _ => rfl) (fun hc6 => (T_bo1 (T_cmp (E_len (E_sub (E_vr rfl) E_pu (item_L (h49.1 hc6))) rfl len_T) E_pu rfl)))) (fun h48 => ?_) (fun h48 => ?_)
  · refine S_gen0 (S := (fun (b7 : GBox) => (bx b7 :: (r ++ [cL DV.int c4]) : IP.Store))) ?_
    intro b7
    exact Q_retL (L := [cL DV.int c4]) (E_bi (L_cons (E_vr rfl) L_nil) (tuple_C (getB rfl)))
  · have h48k := h49.2 h48
    refine S_gen (S := (fun (b9 : GBox) => (bx b9 :: (r ++ [cL DV.int c4]) : IP.Store))) h48k ?_
    intro b9 h47
    refine S_asg (en := DV.int) (env' := fun (x10 : Int) => [some (Val.r 0), some (Val.d ((eL (eT DV.int)) a1)), some (Val.d (DV.int x1)), some (Val.r (r.length + 1 + 0)), some (Val.d (DV.int x10)), none, none, none]) (E_ca (L_cons (E_vr rfl) (L_cons (E_len (E_sub (E_vr rfl) E_pu (item_L h47.1.1)) rfl len_T) L_nil)) (s__law_draw (k + (0)) _ _ _ (closedB hc (by simp [low_cL])) h47.1.2)) (fun _ => rfl) h47.2 ?_
    intro x10 h46
    refine S_gen (S := (fun (b11 : GBox) => (bx b11 :: (r ++ [cL DV.int c4]) : IP.Store))) h46 ?_
    intro b11 h45
    refine S_asg (en := (eL DV.int)) (env' := fun (x14 : (List Int)) => [some (Val.r 0), some (Val.d ((eL (eT DV.int)) a1)), some (Val.d (DV.int x1)), some (Val.r (r.length + 1 + 0)), some (Val.d (DV.int x10)), some (Val.d ((eL DV.int) x14)), none, none]) (E_lc (en := DV.int) (f := fun (y12 : Int) => Val.d (DV.int y12)) (e := fun (y12 : Int) => ([some (Val.r 0), some (Val.d ((eL (eT DV.int)) a1)), some (Val.d (DV.int x1)), some (Val.r (r.length + 1 + 0)), some (Val.d (DV.int x10)), none, none, some (Val.d (DV.int y12))] : IP.Env)) (p := fun (y12 : Int) => (decide ((ix (ix a1 y12) x10) = (1 : Int)))) (g := fun (y12 : Int) => y12) (W_rng1 (E_vr rfl) h45.1.1) h45.1.2.1 (fun _ => rfl) (fun y12 hmy12 => (T_cmp (E_sub (E_sub (E_vr rfl) (E_vr rfl) (item_L (h45.1.2.2 y12 hmy12).1)) (E_vr rfl) (item_T (h45.1.2.2 y12 hmy12).2)) E_pu rfl)) (fun y12 hmy12 hpy12 => (E_vr rfl))) (fun _ => rfl) h45.2 ?_
    intro x14 h44
    refine S_asg (en := (eL DV.int)) (env' := fun (x17 : (List Int)) => [some (Val.r 0), some (Val.d ((eL (eT DV.int)) a1)), some (Val.d (DV.int x1)), some (Val.r (r.length + 1 + 0)), some (Val.d (DV.int x10)), some (Val.d ((eL DV.int) x14)), some (Val.d ((eL DV.int) x17)), none]) (E_lc (en := DV.int) (f := fun (y15 : Int) => Val.d (DV.int y15)) (e := fun (y15 : Int) => ([some (Val.r 0), some (Val.d ((eL (eT DV.int)) a1)), some (Val.d (DV.int x1)), some (Val.r (r.length + 1 + 0)), some (Val.d (DV.int x10)), some (Val.d ((eL DV.int) x14)), none, some (Val.d (DV.int y15))] : IP.Env)) (p := fun (y15 : Int) => (decide ((ix (ix a1 y15) x10) = (0 : Int)))) (g := fun (y15 : Int) => y15) (W_rng1 (E_vr rfl) h44.1.1) h44.1.2.1 (fun _ => rfl) (fun y15 hmy15 => (T_cmp (E_sub (E_sub (E_vr rfl) (E_vr rfl) (item_L (h44.1.2.2 y15 hmy15).1)) (E_vr rfl) (item_T (h44.1.2.2 y15 hmy15).2)) E_pu rfl)) (fun y15 hmy15 hpy15 => (E_vr rfl))) (fun _ => rfl) h44.2 ?_
    intro x17 h43
    refine S_if (s1 := bx b11 :: (r ++ [cL DV.int c4])) (T_or (T_cmp (E_len (E_vr rfl) rfl len_L) E_pu rfl) (fun _ => rfl) (fun hc18 => (T_bo1 (T_cmp (E_len (E_vr rfl) rfl len_L) E_pu rfl)))) (fun h42 => ?_) (fun h42 => ?_)
    · exact Q_retL (L := [cL DV.int c4]) (E_bi (L_cons (E_vr rfl) L_nil) (tuple_C (getB rfl)))
    · have h42k := h43 h42
      refine S_asgv (env' := [some (Val.r 0), some (Val.d ((eL (eT DV.int)) a1)), some (Val.d (DV.int x1)), some (Val.r (r.length + 1 + 1)), some (Val.d (DV.int x10)), some (Val.d ((eL DV.int) x14)), some (Val.d ((eL DV.int) x17)), none]) (E_licE L_nil (lenB rfl) (appB rfl)) rfl ?_
      refine S_gen (S := (fun (c19 : List Int) => (bx b11 :: (r ++ [cL DV.int c4, cL DV.int c19]) : IP.Store))) h42k ?_
      intro c19 h41
      refine S_for (J := (Option Val)) (E := (fun (s29 : ((List Int) × GBox)) (j30 : (Option Val)) => ([some (Val.r 0), some (Val.d ((eL (eT DV.int)) a1)), some (Val.d (DV.int x1)), some (Val.r (r.length + 1 + 1)), some (Val.d (DV.int x10)), some (Val.d ((eL DV.int) x14)), some (Val.d ((eL DV.int) x17)), j30] : IP.Env))) (S := (fun (s29 : ((List Int) × GBox)) => (bx s29.2 :: (r ++ [cL DV.int c4, cL DV.int s29.1]) : IP.Store))) (f := fun (y20 : Int) => Val.d (DV.int y20)) (stp := (fun (s29 : ((List Int) × GBox)) (y20 : Int) => (lt (drawV s29.2 (x14.length : Int)).2 fun (b31 : GBox) => (lt ((s29.1 ++ [(ix x14 (drawV s29.2 (x14.length : Int)).1)]) : List Int) fun c32 => (lt (drawV b31 (x17.length : Int)).2 fun (b33 : GBox) => (lt ((c32 ++ [(ix x17 (drawV b31 (x17.length : Int)).1)]) : List Int) fun c34 => (c34, b33))))))) (ok := (fun (s29 : ((List Int) × GBox)) (y20 : Int) => ((((okLim (x14.length : Int))) ∧ (IP.inR x14.length (drawV s29.2 (x14.length : Int)).1)) ∧ (s29.1.length < lim)) ∧ (lt (drawV s29.2 (x14.length : Int)).2 fun (b31 : GBox) => lt ((s29.1 ++ [(ix x14 (drawV s29.2 (x14.length : Int)).1)]) : List Int) fun c32 => ((((okLim (x17.length : Int))) ∧ (IP.inR x17.length (drawV b31 (x17.length : Int)).1)) ∧ (c32.length < lim))))) (okR := fun (s29 : ((List Int) × GBox)) => True) ((none)) (W_rng1 (E_bin E_pu (E_ca (L_cons (E_vr rfl) (L_cons E_pu L_nil)) (s__law_draw (k + (0)) _ _ _ (closedB hc (by simp [low_cL])) (okLim_lit (by decide) (by decide)))) rfl) h41.1) rfl h41.2 ?_ trivial ?_
      · intro s29 y20 j30 h39
        refine ⟨[some (Val.r 0), some (Val.d ((eL (eT DV.int)) a1)), some (Val.d (DV.int x1)), some (Val.r (r.length + 1 + 1)), some (Val.d (DV.int x10)), some (Val.d ((eL DV.int) x14)), some (Val.d ((eL DV.int) x17)), some (Val.d (DV.int y20))], rfl, ?_⟩
        refine S_expr (E_meAC (en := DV.int) (E_vr rfl) (getB rfl) (L_cons (E_sub (E_vr rfl) (E_ca (L_cons (E_vr rfl) (L_cons (E_len (E_vr rfl) rfl len_L) L_nil)) (s__law_draw (k + (0)) _ _ _ (closedB hc (by simp [low_cL])) h39.1.1.1)) (item_L h39.1.1.2)) L_nil) (getB rfl) h39.1.2 (setB rfl)) ?_
        refine S_gen (S := (fun (b31 : GBox) => (bx b31 :: (r ++ [cL DV.int c4, cL DV.int (s29.1 ++ [(ix x14 (drawV s29.2 (x14.length : Int)).1)])]) : IP.Store))) h39.2 ?_
        intro b31 h38
        refine S_gen (S := (fun (c32 : List Int) => (bx b31 :: (r ++ [cL DV.int c4, cL DV.int c32]) : IP.Store))) h38 ?_
        intro c32 h37
        refine S_expr (E_meAC (en := DV.int) (E_vr rfl) (getB rfl) (L_cons (E_sub (E_vr rfl) (E_ca (L_cons (E_vr rfl) (L_cons (E_len (E_vr rfl) rfl len_L) L_nil)) (s__law_draw (k + (0)) _ _ _ (closedB hc (by simp [low_cL])) h37.1.1)) (item_L h37.1.2)) L_nil) (getB rfl) h37.2 (setB rfl)) ?_
        refine S_gen0 (S := (fun (b33 : GBox) => (bx b33 :: (r ++ [cL DV.int c4, cL DV.int (c32 ++ [(ix x17 (drawV b31 (x17.length : Int)).1)])]) : IP.Store))) ?_
        intro b33
        refine S_gen0 (S := (fun (c34 : List Int) => (bx b33 :: (r ++ [cL DV.int c4, cL DV.int c34]) : IP.Store))) ?_
        intro c34
        exact Q_fallC ((some (Val.d (DV.int y20)))) rfl rfl
      intro s29 j30 h40
      exact Q_retL (L := [cL DV.int c4, cL DV.int s29.1]) (E_bi (L_cons (E_cut (E_vr rfl) (O_some (E_ca (L_cons (E_vr rfl) (L_cons E_pu L_nil)) (s__law_draw (k + (0)) _ _ _ (closedB hc (by simp [low_cL])) (okLim_lit (by decide) (by decide))))) O_none (cut_C (getB rfl))) L_nil) tuple_L)
def v__law_all (b : GBox) : Bool := (lt ((ix ([(0 : Int), (1 : Int), (2 : Int), (3 : Int), (3 : Int), (4 : Int), (4 : Int), (5 : Int), (5 : Int)] : List Int) (drawV b (9 : Int)).1) : Int) fun (x1 : Int) => (lt (drawV b (9 : Int)).2 fun (b2 : GBox) => (lt ((v__law_list (drawV b2 (8 : Int)).2 x1 (ix ([(8 : Int), (8 : Int), (4 : Int), (4 : Int), (6 : Int), (5 : Int), (3 : Int), (32 : Int)] : List Int) (drawV b2 (8 : Int)).1)).1 : (List (List Int))) fun (x3 : (List (List Int))) => (lt (v__law_list (drawV b2 (8 : Int)).2 x1 (ix ([(8 : Int), (8 : Int), (4 : Int), (4 : Int), (6 : Int), (5 : Int), (3 : Int), (32 : Int)] : List Int) (drawV b2 (8 : Int)).1)).2 fun (b4 : GBox) => (lt ((v__law_row (drawV b4 ((1 : Int) * 2 ^ (x1).toNat)).1 x1) : (List Int)) fun (x5 : (List Int)) => (lt (drawV b4 ((1 : Int) * 2 ^ (x1).toNat)).2 fun (b6 : GBox) => (lt ((ix ([(0 : Int), (1 : Int), (2 : Int), (3 : Int), (5 : Int), (6 : Int), (8 : Int), (13 : Int)] : List Int) (drawV b6 (8 : Int)).1) : Int) fun (x7 : Int) => (lt (drawV b6 (8 : Int)).2 fun (b8 : GBox) => (lt ((if ((decide ((x3.length : Int) < (5 : Int))) && (decide ((drawV b8 (4 : Int)).1 = (0 : Int)))) then (lt ((ix ([(20 : Int), (64 : Int), (100 : Int), (200 : Int)] : List Int) (drawV (if (decide ((x3.length : Int) < (5 : Int))) then (drawV b8 (4 : Int)).2 else b8) (4 : Int)).1) : Int) fun (x15 : Int) => (lt (drawV (if (decide ((x3.length : Int) < (5 : Int))) then (drawV b8 (4 : Int)).2 else b8) (4 : Int)).2 fun (b16 : GBox) => (x15, b16))) else (x7, (if (decide ((x3.length : Int) < (5 : Int))) then (drawV b8 (4 : Int)).2 else b8))) : (Int × GBox)) fun (s13 : (Int × GBox)) => (lt ((mkRules x1 x3) : (Int × List (List Int))) fun (x18 : (Int × List (List Int))) => (lt ((v__law_played x3 x5 s13.1) : ((List Int) × (List Int))) fun (x19 : ((List Int) × (List Int))) => (if ((!true) || (!true)) then false else (if (!(v__law_counted x18 x3 x5 x19.1)) then false else (if (!(decide (((v__law_wrong x3 x5 x19.1).map fun (y21 : Int) => ((1 : Int) * 2 ^ (y21).toNat)) = x19.2))) then false else (lt ((drawV s13.2 ((min2 s13.1 (9 : Int)) + (1 : Int))).1 : Int) fun (x23 : Int) => (lt (drawV s13.2 ((min2 s13.1 (9 : Int)) + (1 : Int))).2 fun (b24 : GBox) => (lt ((v__law_row (drawV b24 ((1 : Int) * 2 ^ (x1).toNat)).1 x1) : (List Int)) fun (x25 : (List Int)) => (lt (drawV b24 ((1 : Int) * 2 ^ (x1).toNat)).2 fun (b26 : GBox) => (if (!true) then false else (if (!true) then false else (if (!true) then false else (LO.fin (forO (ρ := Bool) (fun (s33 : (GBox)) (y27 : Int) => (if (!(v__law_counted x18 x3 x25 (v__law_numbers s33 x3).1)) then (lt (v__law_numbers s33 x3).2 fun (b35 : GBox) => (LO.rt false)) else (lt (v__law_numbers s33 x3).2 fun (b37 : GBox) => (LO.nx (b37))))) (b26) (irange (0 : Int) (3 : Int))) fun (s33 : (GBox)) => (lt ((v__law_numbers s33 x3).1 : (List Int)) fun (x40 : (List Int)) => (lt (v__law_numbers s33 x3).2 fun (b41 : GBox) => (if (!true) then false else true)))))))))))))))))))))))))
def ok__law_all (b : GBox) : Prop := ((IP.inR ([(0 : Int), (1 : Int), (2 : Int), (3 : Int), (3 : Int), (4 : Int), (4 : Int), (5 : Int), (5 : Int)] : List Int).length (drawV b (9 : Int)).1)) ∧ (lt ((ix ([(0 : Int), (1 : Int), (2 : Int), (3 : Int), (3 : Int), (4 : Int), (4 : Int), (5 : Int), (5 : Int)] : List Int) (drawV b (9 : Int)).1) : Int) fun (x1 : Int) => lt (drawV b (9 : Int)).2 fun (b2 : GBox) => (((IP.inR ([(8 : Int), (8 : Int), (4 : Int), (4 : Int), (6 : Int), (5 : Int), (3 : Int), (32 : Int)] : List Int).length (drawV b2 (8 : Int)).1)) ∧ (ok__law_list (drawV b2 (8 : Int)).2 x1 (ix ([(8 : Int), (8 : Int), (4 : Int), (4 : Int), (6 : Int), (5 : Int), (3 : Int), (32 : Int)] : List Int) (drawV b2 (8 : Int)).1))) ∧ (lt ((v__law_list (drawV b2 (8 : Int)).2 x1 (ix ([(8 : Int), (8 : Int), (4 : Int), (4 : Int), (6 : Int), (5 : Int), (3 : Int), (32 : Int)] : List Int) (drawV b2 (8 : Int)).1)).1 : (List (List Int))) fun (x3 : (List (List Int))) => lt (v__law_list (drawV b2 (8 : Int)).2 x1 (ix ([(8 : Int), (8 : Int), (4 : Int), (4 : Int), (6 : Int), (5 : Int), (3 : Int), (32 : Int)] : List Int) (drawV b2 (8 : Int)).1)).2 fun (b4 : GBox) => ((((PowOkB (1 : Int) x1 = true)) ∧ (okLim ((1 : Int) * 2 ^ (x1).toNat))) ∧ (ok__law_row (drawV b4 ((1 : Int) * 2 ^ (x1).toNat)).1 x1)) ∧ (lt ((v__law_row (drawV b4 ((1 : Int) * 2 ^ (x1).toNat)).1 x1) : (List Int)) fun (x5 : (List Int)) => lt (drawV b4 ((1 : Int) * 2 ^ (x1).toNat)).2 fun (b6 : GBox) => ((IP.inR ([(0 : Int), (1 : Int), (2 : Int), (3 : Int), (5 : Int), (6 : Int), (8 : Int), (13 : Int)] : List Int).length (drawV b6 (8 : Int)).1)) ∧ (lt ((ix ([(0 : Int), (1 : Int), (2 : Int), (3 : Int), (5 : Int), (6 : Int), (8 : Int), (13 : Int)] : List Int) (drawV b6 (8 : Int)).1) : Int) fun (x7 : Int) => lt (drawV b6 (8 : Int)).2 fun (b8 : GBox) => (((decide ((x3.length : Int) < (5 : Int))) && (decide ((drawV b8 (4 : Int)).1 = (0 : Int)))) = true → (IP.inR ([(20 : Int), (64 : Int), (100 : Int), (200 : Int)] : List Int).length (drawV (if (decide ((x3.length : Int) < (5 : Int))) then (drawV b8 (4 : Int)).2 else b8) (4 : Int)).1)) ∧ (lt ((if ((decide ((x3.length : Int) < (5 : Int))) && (decide ((drawV b8 (4 : Int)).1 = (0 : Int)))) then (lt ((ix ([(20 : Int), (64 : Int), (100 : Int), (200 : Int)] : List Int) (drawV (if (decide ((x3.length : Int) < (5 : Int))) then (drawV b8 (4 : Int)).2 else b8) (4 : Int)).1) : Int) fun (x15 : Int) => (lt (drawV (if (decide ((x3.length : Int) < (5 : Int))) then (drawV b8 (4 : Int)).2 else b8) (4 : Int)).2 fun (b16 : GBox) => (x15, b16))) else (x7, (if (decide ((x3.length : Int) < (5 : Int))) then (drawV b8 (4 : Int)).2 else b8))) : (Int × GBox)) fun (s13 : (Int × GBox)) => ((okRules x1 x3)) ∧ (lt ((mkRules x1 x3) : (Int × List (List Int))) fun (x18 : (Int × List (List Int))) => ((ok__law_played x3 x5 s13.1)) ∧ (lt ((v__law_played x3 x5 s13.1) : ((List Int) × (List Int))) fun (x19 : ((List Int) × (List Int))) => ((((((ok_taken x18 x5 s13.1)) ∧ (okSame ((eT DV.int) (v_taken x18 x5 s13.1)) ((eT DV.int) x19.1))))) ∧ ((!true) = false → ((((ok_weights_behind x18 x5 s13.1)) ∧ (okSame ((eT DV.int) (v_weights_behind x18 x5 s13.1)) ((eT DV.int) x19.2)))))) ∧ (((!true) || (!true)) = false → ((((ok__law_counted x18 x3 x5 x19.1)))) ∧ ((!(v__law_counted x18 x3 x5 x19.1)) = false → ((((((ok__law_wrong x3 x5 x19.1))) ∧ ((v__law_wrong x3 x5 x19.1).length ≤ lim) ∧ (∀ y21 ∈ (v__law_wrong x3 x5 x19.1), ((PowOkB (1 : Int) y21 = true)))))) ∧ ((!(decide (((v__law_wrong x3 x5 x19.1).map fun (y21 : Int) => ((1 : Int) * 2 ^ (y21).toNat)) = x19.2))) = false → ((okLim ((min2 s13.1 (9 : Int)) + (1 : Int)))) ∧ (lt ((drawV s13.2 ((min2 s13.1 (9 : Int)) + (1 : Int))).1 : Int) fun (x23 : Int) => lt (drawV s13.2 ((min2 s13.1 (9 : Int)) + (1 : Int))).2 fun (b24 : GBox) => ((((PowOkB (1 : Int) x1 = true)) ∧ (okLim ((1 : Int) * 2 ^ (x1).toNat))) ∧ (ok__law_row (drawV b24 ((1 : Int) * 2 ^ (x1).toNat)).1 x1)) ∧ (lt ((v__law_row (drawV b24 ((1 : Int) * 2 ^ (x1).toNat)).1 x1) : (List Int)) fun (x25 : (List Int)) => lt (drawV b24 ((1 : Int) * 2 ^ (x1).toNat)).2 fun (b26 : GBox) => (((((ok_taken x18 x5 x23)) ∧ (okSame ((eT DV.int) (v_taken x18 x5 x23)) ((eT DV.int) (slc x19.1 none (some x23))))))) ∧ ((!true) = false → (((((ok_taken x18 x25 x23)) ∧ (((ok__law_played x3 x25 x23))) ∧ (okSame ((eT DV.int) (v_taken x18 x25 x23)) ((eT DV.int) (v__law_played x3 x25 x23).1))))) ∧ ((!true) = false → (((((ok_weights_behind x18 x5 x23)) ∧ (((ok__law_played x3 x5 x23))) ∧ (okSame ((eT DV.int) (v_weights_behind x18 x5 x23)) ((eT DV.int) (v__law_played x3 x5 x23).2))))) ∧ ((!true) = false → (okForO (ρ := Bool) (fun (s33 : (GBox)) (y27 : Int) => (((((ok__law_numbers s33 x3)) ∧ (ok__law_counted x18 x3 x25 (v__law_numbers s33 x3).1))))) (fun (s33 : (GBox)) (y27 : Int) => (if (!(v__law_counted x18 x3 x25 (v__law_numbers s33 x3).1)) then (lt (v__law_numbers s33 x3).2 fun (b35 : GBox) => (LO.rt false)) else (lt (v__law_numbers s33 x3).2 fun (b37 : GBox) => (LO.nx (b37))))) (b26) (irange (0 : Int) (3 : Int))) ∧ (LO.okFin (forO (ρ := Bool) (fun (s33 : (GBox)) (y27 : Int) => (if (!(v__law_counted x18 x3 x25 (v__law_numbers s33 x3).1)) then (lt (v__law_numbers s33 x3).2 fun (b35 : GBox) => (LO.rt false)) else (lt (v__law_numbers s33 x3).2 fun (b37 : GBox) => (LO.nx (b37))))) (b26) (irange (0 : Int) (3 : Int))) fun (s33 : (GBox)) => ((ok__law_numbers s33 x3)) ∧ (lt ((v__law_numbers s33 x3).1 : (List Int)) fun (x40 : (List Int)) => lt (v__law_numbers s33 x3).2 fun (b41 : GBox) => (((((ok_voted_by x18 x40)) ∧ ((ok__law_voted x3 x1 x40)) ∧ (okSame ((eT DV.int) (v_voted_by x18 x40)) ((eT DV.int) (v__law_voted x3 x1 x40)))))) ∧ ((!true) = false → ((ok_wrong_counts x18 x5 x40)) ∧ ((ok__law_wrong x3 x5 x40)) ∧ (okSame ((eT DV.int) (v_wrong_counts x18 x5 x40)) ((eT DV.int) (v__law_wrong x3 x5 x40)))))))))))))))))))))
theorem s__law_all (k : Nat)  (ns : List Int) (hn : ns.length ≤ 1000) (h : ok__law_all (boxV ns hn)) : callF G 1000000 (k + 9) ("_law_all", none) [.scr ns] ([]) = .ok (.d (DV.bl (v__law_all (boxV ns hn)))) ([]) := by
  refine (q__law_all (k + 8) (.scr ns) _).trans ?_
  refine fn_end (rv := fun w => (.d (DV.bl w), ([] : Store))) (w := v__law_all (boxV ns hn)) ?_ rfl rfl rfl
  have hc : ∀ b : GBox, Closed (bx b :: ([] : Store)) := fun b => rfl
  show RetS _ (b__law_all (callF G 1000000 (k + 8)) [some (Val.scr ns), none, none, none, none, none, none, none, none, none, none, none, none, none] ([])) _
  unfold ok__law_all at h
  unfold v__law_all b__law_all
  generalize hbb : boxV ns hn = b at h ⊢
  refine S_asgv (env' := [some (Val.scr ns), some (Val.r 0), none, none, none, none, none, none, none, none, none, none, none, none]) (E_ca (L_cons (E_vr rfl) L_nil) (hbb ▸ s__law_box (k + (7)) ns hn)) rfl ?_
  refine S_asg (en := DV.int) (env' := fun (x1 : Int) => [some (Val.scr ns), some (Val.r 0), some (Val.d (DV.int x1)), none, none, none, none, none, none, none, none, none, none, none]) (E_sub (E_li (L_cons E_pu (L_cons E_pu (L_cons E_pu (L_cons E_pu (L_cons E_pu (L_cons E_pu (L_cons E_pu (L_cons E_pu (L_cons E_pu L_nil))))))))) rfl (leLim rfl)) (E_ca (L_cons (E_vr rfl) (L_cons E_pu L_nil)) (s__law_draw (k + (7)) _ _ _ hc (okLim_lit (by decide) (by decide)))) (item_L h.1)) (fun _ => rfl) h.2 ?_
  intro x1 h68
  refine S_gen (S := (fun (b2 : GBox) => (bx b2 :: ([] : Store) : IP.Store))) h68 ?_
  intro b2 h67
  refine S_asg (en := (eL (eT DV.int))) (env' := fun (x3 : (List (List Int))) => [some (Val.scr ns), some (Val.r 0), some (Val.d (DV.int x1)), some (Val.d ((eL (eT DV.int)) x3)), none, none, none, none, none, none, none, none, none, none]) (E_ca (L_cons (E_vr rfl) (L_cons (E_vr rfl) (L_cons (E_sub (E_li (L_cons E_pu (L_cons E_pu (L_cons E_pu (L_cons E_pu (L_cons E_pu (L_cons E_pu (L_cons E_pu (L_cons E_pu L_nil)))))))) rfl (leLim rfl)) (E_ca (L_cons (E_vr rfl) (L_cons E_pu L_nil)) (s__law_draw (k + (7)) _ _ _ hc (okLim_lit (by decide) (by decide)))) (item_L h67.1.1)) L_nil))) (s__law_list (k + (6)) _ _ _ _ hc h67.1.2)) (fun _ => rfl) h67.2 ?_
  intro x3 h66
  refine S_gen (S := (fun (b4 : GBox) => (bx b4 :: ([] : Store) : IP.Store))) h66 ?_
  intro b4 h65
  refine S_asg (en := (eT DV.int)) (env' := fun (x5 : (List Int)) => [some (Val.scr ns), some (Val.r 0), some (Val.d (DV.int x1)), some (Val.d ((eL (eT DV.int)) x3)), some (Val.d ((eT DV.int) x5)), none, none, none, none, none, none, none, none, none]) (E_ca (L_cons (E_ca (L_cons (E_vr rfl) (L_cons (E_bin E_pu (E_vr rfl) (bin_shl h65.1.1.1)) L_nil)) (s__law_draw (k + (7)) _ _ _ hc h65.1.1.2)) (L_cons (E_vr rfl) L_nil)) (s__law_row (k + (7)) _ _ _ (hc _) h65.1.2)) (fun _ => rfl) h65.2 ?_
  intro x5 h64
  refine S_gen (S := (fun (b6 : GBox) => (bx b6 :: ([] : Store) : IP.Store))) h64 ?_
  intro b6 h63
  refine S_asg (en := DV.int) (env' := fun (x7 : Int) => [some (Val.scr ns), some (Val.r 0), some (Val.d (DV.int x1)), some (Val.d ((eL (eT DV.int)) x3)), some (Val.d ((eT DV.int) x5)), some (Val.d (DV.int x7)), none, none, none, none, none, none, none, none]) (E_sub (E_li (L_cons E_pu (L_cons E_pu (L_cons E_pu (L_cons E_pu (L_cons E_pu (L_cons E_pu (L_cons E_pu (L_cons E_pu L_nil)))))))) rfl (leLim rfl)) (E_ca (L_cons (E_vr rfl) (L_cons E_pu L_nil)) (s__law_draw (k + (7)) _ _ _ hc (okLim_lit (by decide) (by decide)))) (item_L h63.1)) (fun _ => rfl) h63.2 ?_
  intro x7 h62
  refine S_gen (S := (fun (b8 : GBox) => (bx b8 :: ([] : Store) : IP.Store))) h62 ?_
  intro b8 h61
  refine S_ifJ (s1 := bx (if (decide ((x3.length : Int) < (5 : Int))) then (drawV b8 (4 : Int)).2 else b8) :: ([] : Store)) (J := Unit) (E := (fun (s13 : (Int × GBox)) (j14 : Unit) => ([some (Val.scr ns), some (Val.r 0), some (Val.d (DV.int x1)), some (Val.d ((eL (eT DV.int)) x3)), some (Val.d ((eT DV.int) x5)), some (Val.d (DV.int s13.1)), none, none, none, none, none, none, none, none] : IP.Env))) (S := (fun (s13 : (Int × GBox)) => (bx s13.2 :: ([] : Store) : IP.Store))) (T_and (T_cmp (E_len (E_vr rfl) rfl len_L) E_pu rfl) (fun hc9 => by rw [if_neg (ne_true hc9)]) (fun hc9 => (Ev_cast (by rw [if_pos hc9]) (T_bo1 (T_cmp (E_ca (L_cons (E_vr rfl) (L_cons E_pu L_nil)) (s__law_draw (k + (7)) _ _ _ hc (okLim_lit (by decide) (by decide)))) E_pu rfl))))) (fun h60 => ?_) (fun h60 => ?_) h61.2 ?_
  · have h60k := h61.1 h60
    refine S_asg0 (en := DV.int) (env' := fun (x15 : Int) => [some (Val.scr ns), some (Val.r 0), some (Val.d (DV.int x1)), some (Val.d ((eL (eT DV.int)) x3)), some (Val.d ((eT DV.int) x5)), some (Val.d (DV.int x15)), none, none, none, none, none, none, none, none]) (E_sub (E_li (L_cons E_pu (L_cons E_pu (L_cons E_pu (L_cons E_pu L_nil)))) rfl (leLim rfl)) (E_ca (L_cons (E_vr rfl) (L_cons E_pu L_nil)) (s__law_draw (k + (7)) _ _ _ hc (okLim_lit (by decide) (by decide)))) (item_L h60k)) (fun _ => rfl) ?_
    intro x15
    refine S_gen0 (S := (fun (b16 : GBox) => (bx b16 :: ([] : Store) : IP.Store))) ?_
    intro b16
    exact Q_fall () rfl rfl
  · exact Q_fall () rfl rfl
  intro s13 j14 h59
  refine S_asg (en := eR) (env' := fun (x18 : (Int × List (List Int))) => [some (Val.scr ns), some (Val.r 0), some (Val.d (DV.int x1)), some (Val.d ((eL (eT DV.int)) x3)), some (Val.d ((eT DV.int) x5)), some (Val.d (DV.int s13.1)), some (Val.d (eR x18)), none, none, none, none, none, none, none]) (E_ca (L_cons (E_vr rfl) (L_cons (E_vr rfl) L_nil)) (mk_Rules_L (k + (3)) _ _ _ (hc _) h59.1)) (fun _ => rfl) h59.2 ?_
  intro x18 h58
  refine S_asgT (en := (eP (eT DV.int) (eT DV.int))) (env' := fun (x19 : ((List Int) × (List Int))) => [some (Val.scr ns), some (Val.r 0), some (Val.d (DV.int x1)), some (Val.d ((eL (eT DV.int)) x3)), some (Val.d ((eT DV.int) x5)), some (Val.d (DV.int s13.1)), some (Val.d (eR x18)), none, none, none, none, some (Val.d ((eT DV.int) x19.1)), some (Val.d ((eT DV.int) x19.2)), none]) (E_ca (L_cons (E_vr rfl) (L_cons (E_vr rfl) (L_cons (E_vr rfl) L_nil))) (s__law_played (k + (7)) _ _ _ _ (hc _) h58.1)) (fun _ => rfl) h58.2 ?_
  intro x19 h57
  refine S_if (s1 := bx s13.2 :: ([] : Store)) (T_or (T_not (T_bl (E_ca (L_cons (E_ca (L_cons (E_vr rfl) (L_cons (E_vr rfl) (L_cons (E_vr rfl) L_nil))) (s_taken (k + (2)) _ _ _ _ (hc _) h57.1.1.1)) (L_cons (E_vr rfl) L_nil)) (s__law_same (k + (1)) _ _ _ (hc _) h57.1.1.2)))) (fun _ => rfl) (fun hc20 => (T_bo1 (T_not (T_bl (E_ca (L_cons (E_ca (L_cons (E_vr rfl) (L_cons (E_vr rfl) (L_cons (E_vr rfl) L_nil))) (s_weights_behind (k + (2)) _ _ _ _ (hc _) (h57.1.2 hc20).1)) (L_cons (E_vr rfl) L_nil)) (s__law_same (k + (1)) _ _ _ (hc _) (h57.1.2 hc20).2))))))) (fun h56 => ?_) (fun h56 => ?_)
  · exact Q_retL (L := bx s13.2 :: ([] : Store)) E_pu
  · have h56k := h57.2 h56
    refine S_if (s1 := bx s13.2 :: ([] : Store)) (T_not (T_bl (E_ca (L_cons (E_vr rfl) (L_cons (E_vr rfl) (L_cons (E_vr rfl) (L_cons (E_vr rfl) L_nil)))) (s__law_counted (k + (0)) _ _ _ _ _ (hc _) h56k.1)))) (fun h55 => ?_) (fun h55 => ?_)
    · exact Q_retL (L := bx s13.2 :: ([] : Store)) E_pu
    · have h55k := h56k.2 h55
      refine S_if (s1 := bx s13.2 :: ([] : Store)) (T_cmp (E_bi (L_cons (E_lc0 (en := DV.int) (f := fun (y21 : Int) => Val.d (DV.int y21)) (e := fun (y21 : Int) => ([some (Val.scr ns), some (Val.r 0), some (Val.d (DV.int x1)), some (Val.d ((eL (eT DV.int)) x3)), some (Val.d ((eT DV.int) x5)), some (Val.d (DV.int s13.1)), some (Val.d (eR x18)), none, none, none, none, some (Val.d ((eT DV.int) x19.1)), some (Val.d ((eT DV.int) x19.2)), some (Val.d (DV.int y21))] : IP.Env)) (g := fun (y21 : Int) => ((1 : Int) * 2 ^ (y21).toNat)) (W_genT (E_ca (L_cons (E_vr rfl) (L_cons (E_vr rfl) (L_cons (E_vr rfl) L_nil))) (s__law_wrong (k + (7)) _ _ _ _ (hc _) h55k.1.1))) h55k.1.2.1 (fun _ => rfl) (fun y21 hmy21 => (E_bin E_pu (E_vr rfl) (bin_shl (h55k.1.2.2 y21 hmy21))))) L_nil) tuple_L) (E_vr rfl) (cmp_neE (PyE.tup PyE.int) (by decide) rfl)) (fun h54 => ?_) (fun h54 => ?_)
      · exact Q_retL (L := bx s13.2 :: ([] : Store)) E_pu
      · have h54k := h55k.2 h54
        refine S_asg (en := DV.int) (env' := fun (x23 : Int) => [some (Val.scr ns), some (Val.r 0), some (Val.d (DV.int x1)), some (Val.d ((eL (eT DV.int)) x3)), some (Val.d ((eT DV.int) x5)), some (Val.d (DV.int s13.1)), some (Val.d (eR x18)), some (Val.d (DV.int x23)), none, none, none, some (Val.d ((eT DV.int) x19.1)), some (Val.d ((eT DV.int) x19.2)), none]) (E_ca (L_cons (E_vr rfl) (L_cons (E_bin (E_bi (L_cons (E_vr rfl) (L_cons E_pu L_nil)) min2_i) E_pu rfl) L_nil)) (s__law_draw (k + (7)) _ _ _ hc h54k.1)) (fun _ => rfl) h54k.2 ?_
        intro x23 h53
        refine S_gen (S := (fun (b24 : GBox) => (bx b24 :: ([] : Store) : IP.Store))) h53 ?_
        intro b24 h52
        refine S_asg (en := (eT DV.int)) (env' := fun (x25 : (List Int)) => [some (Val.scr ns), some (Val.r 0), some (Val.d (DV.int x1)), some (Val.d ((eL (eT DV.int)) x3)), some (Val.d ((eT DV.int) x5)), some (Val.d (DV.int s13.1)), some (Val.d (eR x18)), some (Val.d (DV.int x23)), some (Val.d ((eT DV.int) x25)), none, none, some (Val.d ((eT DV.int) x19.1)), some (Val.d ((eT DV.int) x19.2)), none]) (E_ca (L_cons (E_ca (L_cons (E_vr rfl) (L_cons (E_bin E_pu (E_vr rfl) (bin_shl h52.1.1.1)) L_nil)) (s__law_draw (k + (7)) _ _ _ hc h52.1.1.2)) (L_cons (E_vr rfl) L_nil)) (s__law_row (k + (7)) _ _ _ (hc _) h52.1.2)) (fun _ => rfl) h52.2 ?_
        intro x25 h51
        refine S_gen (S := (fun (b26 : GBox) => (bx b26 :: ([] : Store) : IP.Store))) h51 ?_
        intro b26 h50
        refine S_if (s1 := bx b26 :: ([] : Store)) (T_not (T_bl (E_ca (L_cons (E_kw (L_cons (E_vr rfl) (L_cons (E_vr rfl) (L_cons (E_vr rfl) L_nil))) rfl (s_taken (k + (2)) _ _ _ _ (hc _) h50.1.1)) (L_cons (E_cut (E_vr rfl) O_none (O_some (E_vr rfl)) cut_T) L_nil)) (s__law_same (k + (1)) _ _ _ (hc _) h50.1.2)))) (fun h49 => ?_) (fun h49 => ?_)
        · exact Q_retL (L := bx b26 :: ([] : Store)) E_pu
        · have h49k := h50.2 h49
          refine S_if (s1 := bx b26 :: ([] : Store)) (T_not (T_bl (E_ca (L_cons (E_ca (L_cons (E_vr rfl) (L_cons (E_vr rfl) (L_cons (E_vr rfl) L_nil))) (s_taken (k + (2)) _ _ _ _ (hc _) h49k.1.1)) (L_cons (E_sub (E_ca (L_cons (E_vr rfl) (L_cons (E_vr rfl) (L_cons (E_vr rfl) L_nil))) (s__law_played (k + (7)) _ _ _ _ (hc _) h49k.1.2.1)) E_pu rfl) L_nil)) (s__law_same (k + (1)) _ _ _ (hc _) h49k.1.2.2)))) (fun h48 => ?_) (fun h48 => ?_)
          · exact Q_retL (L := bx b26 :: ([] : Store)) E_pu
          · have h48k := h49k.2 h48
            refine S_if (s1 := bx b26 :: ([] : Store)) (T_not (T_bl (E_ca (L_cons (E_kw (L_cons (E_vr rfl) (L_cons (E_vr rfl) (L_cons (E_vr rfl) L_nil))) rfl (s_weights_behind (k + (2)) _ _ _ _ (hc _) h48k.1.1)) (L_cons (E_sub (E_ca (L_cons (E_vr rfl) (L_cons (E_vr rfl) (L_cons (E_vr rfl) L_nil))) (s__law_played (k + (7)) _ _ _ _ (hc _) h48k.1.2.1)) E_pu rfl) L_nil)) (s__law_same (k + (1)) _ _ _ (hc _) h48k.1.2.2)))) (fun h47 => ?_) (fun h47 => ?_)
            · exact Q_retL (L := bx b26 :: ([] : Store)) E_pu
            · have h47k := h48k.2 h47
              refine S_forO (J := (Option Val)) (E := (fun (s33 : (GBox)) (j34 : (Option Val)) => ([some (Val.scr ns), some (Val.r 0), some (Val.d (DV.int x1)), some (Val.d ((eL (eT DV.int)) x3)), some (Val.d ((eT DV.int) x5)), some (Val.d (DV.int s13.1)), some (Val.d (eR x18)), some (Val.d (DV.int x23)), some (Val.d ((eT DV.int) x25)), j34, none, some (Val.d ((eT DV.int) x19.1)), some (Val.d ((eT DV.int) x19.2)), none] : IP.Env))) (S := (fun (s33 : (GBox)) => (bx s33 :: ([] : Store) : IP.Store))) (f := fun (y27 : Int) => Val.d (DV.int y27)) (stp := (fun (s33 : (GBox)) (y27 : Int) => (if (!(v__law_counted x18 x3 x25 (v__law_numbers s33 x3).1)) then (lt (v__law_numbers s33 x3).2 fun (b35 : GBox) => (LO.rt false)) else (lt (v__law_numbers s33 x3).2 fun (b37 : GBox) => (LO.nx (b37)))))) (ok := (fun (s33 : (GBox)) (y27 : Int) => (((((ok__law_numbers s33 x3)) ∧ (ok__law_counted x18 x3 x25 (v__law_numbers s33 x3).1)))))) (okR := fun (s33 : (GBox)) => ((ok__law_numbers s33 x3)) ∧ (lt ((v__law_numbers s33 x3).1 : (List Int)) fun (x40 : (List Int)) => lt (v__law_numbers s33 x3).2 fun (b41 : GBox) => (((((ok_voted_by x18 x40)) ∧ ((ok__law_voted x3 x1 x40)) ∧ (okSame ((eT DV.int) (v_voted_by x18 x40)) ((eT DV.int) (v__law_voted x3 x1 x40)))))) ∧ ((!true) = false → ((ok_wrong_counts x18 x5 x40)) ∧ ((ok__law_wrong x3 x5 x40)) ∧ (okSame ((eT DV.int) (v_wrong_counts x18 x5 x40)) ((eT DV.int) (v__law_wrong x3 x5 x40)))))) ((none)) (W_rng1 E_pu (by decide)) rfl h47k.1 ?_ h47k.2 ?_
              · intro s33 y27 j34 h45
                refine ⟨[some (Val.scr ns), some (Val.r 0), some (Val.d (DV.int x1)), some (Val.d ((eL (eT DV.int)) x3)), some (Val.d ((eT DV.int) x5)), some (Val.d (DV.int s13.1)), some (Val.d (eR x18)), some (Val.d (DV.int x23)), some (Val.d ((eT DV.int) x25)), some (Val.d (DV.int y27)), none, some (Val.d ((eT DV.int) x19.1)), some (Val.d ((eT DV.int) x19.2)), none], rfl, ?_⟩
                refine S_if (s1 := bx (v__law_numbers s33 x3).2 :: ([] : Store)) (T_not (T_bl (E_ca (L_cons (E_vr rfl) (L_cons (E_vr rfl) (L_cons (E_vr rfl) (L_cons (E_ca (L_cons (E_vr rfl) (L_cons (E_vr rfl) L_nil)) (s__law_numbers (k + (6)) _ _ _ hc h45.1)) L_nil)))) (s__law_counted (k + (0)) _ _ _ _ _ (hc _) h45.2)))) (fun h39 => ?_) (fun h39 => ?_)
                · refine S_gen0 (S := (fun (b35 : GBox) => (bx b35 :: ([] : Store) : IP.Store))) ?_
                  intro b35
                  exact OutQ_ret (Q_retL (L := bx b35 :: ([] : Store)) E_pu) E_pu
                · refine S_gen0 (S := (fun (b37 : GBox) => (bx b37 :: ([] : Store) : IP.Store))) ?_
                  intro b37
                  exact Q_nx ((some (Val.d (DV.int y27)))) rfl rfl
              intro s33 j34 h46
              refine S_asg (en := (eT DV.int)) (env' := fun (x40 : (List Int)) => [some (Val.scr ns), some (Val.r 0), some (Val.d (DV.int x1)), some (Val.d ((eL (eT DV.int)) x3)), some (Val.d ((eT DV.int) x5)), some (Val.d (DV.int s13.1)), some (Val.d (eR x18)), some (Val.d (DV.int x23)), some (Val.d ((eT DV.int) x25)), j34, some (Val.d ((eT DV.int) x40)), some (Val.d ((eT DV.int) x19.1)), some (Val.d ((eT DV.int) x19.2)), none]) (E_ca (L_cons (E_vr rfl) (L_cons (E_vr rfl) L_nil)) (s__law_numbers (k + (6)) _ _ _ hc h46.1)) (fun _ => rfl) h46.2 ?_
              intro x40 h44
              refine S_gen (S := (fun (b41 : GBox) => (bx b41 :: ([] : Store) : IP.Store))) h44 ?_
              intro b41 h43
              refine S_if (s1 := bx b41 :: ([] : Store)) (T_not (T_bl (E_ca (L_cons (E_kw (L_cons (E_vr rfl) (L_cons (E_vr rfl) L_nil)) rfl (s_voted_by (k + (2)) _ _ _ (hc _) h43.1.1)) (L_cons (E_ca (L_cons (E_vr rfl) (L_cons (E_vr rfl) (L_cons (E_vr rfl) L_nil))) (s__law_voted (k + (7)) _ _ _ _ (hc _) h43.1.2.1)) L_nil)) (s__law_same (k + (1)) _ _ _ (hc _) h43.1.2.2)))) (fun h42 => ?_) (fun h42 => ?_)
              · exact Q_retL (L := bx b41 :: ([] : Store)) E_pu
              · have h42k := h43.2 h42
                exact Q_retL (L := bx b41 :: ([] : Store)) (E_ca (L_cons (E_kw (L_cons (E_vr rfl) (L_cons (E_vr rfl) (L_cons (E_vr rfl) L_nil))) rfl (s_wrong_counts (k + (2)) _ _ _ _ (hc _) h42k.1)) (L_cons (E_ca (L_cons (E_vr rfl) (L_cons (E_vr rfl) (L_cons (E_vr rfl) L_nil))) (s__law_wrong (k + (7)) _ _ _ _ (hc _) h42k.2.1)) L_nil)) (s__law_same (k + (1)) _ _ _ (hc _) h42k.2.2))
theorem ans (hall : ∀ b : GBox, ok__law_all b ∧ v__law_all b = true) (ns : List Int) (hn : ns.length ≤ 63) : ∃ st, callF G 1000000 (9 + 1) ("law", none) [.scr ns] [] = .ok (.d (.bl true)) st := by
  refine ⟨[], (q_law 9 _ _).trans ?_⟩
  have hs := s__law_all 0 ns (by omega) (hall _).1
  rw [(hall _).2, Nat.zero_add] at hs
  have h1 : blS [retS (fun e => (caM (callF G 1000000 9 ("_law_all", none)) [(vr 0 e)]))] [some (Val.scr ns)] [] = .ok (.ret (.d (.bl true))) [some (Val.scr ns)] [] := retS_bl (E_ca (L_cons (E_vr rfl) L_nil) hs)
  have h2 : b_law (callF G 1000000 9) [some (Val.scr ns)] [] = .ok (.ret (.d (.bl true))) [some (Val.scr ns)] [] := by
    unfold b_law
    show seqS (tryS _) _ _ _ = _
    unfold seqS tryS
    rw [h1]
    rfl
  rw [h2]
  rfl
theorem roomD : Room (2 * (9 + 1)) callerA := ⟨rfl, by decide, by decide⟩
end K97

set_option maxHeartbeats 4000000
namespace K97
open PySem PySem.Spec PyProof.Rows L2 IP
theorem law_row_spec (a : Int) (n : Nat) (hn : n ≤ 1000) : ok__law_row a n ∧ IsRow n (v__law_row a n) := by
  refine ⟨⟨sm62 (by omega) (by omega), irange_le (by omega), fun y hy => (mem_irange.mp hy).1⟩, ?_, ?_⟩
  · unfold v__law_row
    rw [List.length_map, irange_len]
    omega
  · intro v hv
    unfold v__law_row at hv
    obtain ⟨y, _, rfl⟩ := List.mem_map.mp hv
    rw [bitAnd_m1]
    omega
theorem ones_there : ∀ n : Nat, n ≤ 5 → ∀ o : Nat, o ≤ n → (v__law_row ((2 ^ o - 1 : Nat) : Int) n).sum = o := by decide +kernel
theorem law_list_spec (b : GBox) (n : Nat) (hn : n ≤ 5) (m : Int) (hm : 1 ≤ m) (hm2 : m ≤ 32) : HP (ok__law_list b n m) (v__law_list b n m) fun p => RList n p.1 ∧ (p.1.length : Int) ≤ m := by
  have hp2 : (0 : Int) < 1 * 2 ^ ((n : Int)).toNat := by have := pow2_pos ((n : Int)).toNat; omega
  have hp3 : (1 : Int) * 2 ^ ((n : Int)).toNat ≤ 32 := by
    have := pow2_le (n := ((n : Int)).toNat) (m := 5) (by omega)
    omega
  have hpo : PowOkB 1 n = true := powOk2 (by omega) (by omega)
  unfold ok__law_list v__law_list
  refine HP.lt fun x1 hx1 => HP.lt fun b2 _ => ?_
  have hd := draw_lt b2 (l := m) (by omega)
  have hS := mapS_draw (fun (y3 : Int) (b4 : GBox) => ((drawV b4 ((1 : Int) * 2 ^ ((n : Int)).toNat)).1, (drawV b4 ((1 : Int) * 2 ^ ((n : Int)).toNat)).2)) (fun (y3 : Int) (b4 : GBox) => ((PowOkB (1 : Int) n = true)) ∧ (okLim ((1 : Int) * 2 ^ ((n : Int)).toNat))) 0 (1 * 2 ^ ((n : Int)).toNat) (fun _ _ => ⟨hpo, okLim_of hp2 (by omega)⟩) (fun _ b => draw_lt b hp2) (irange 0 (1 + (drawV b2 m).1)) (drawV b2 m).2
  refine HP.and ⟨⟨okLim_of (by omega) (by omega), sm62 (by omega) (by omega)⟩, irange_le (by omega), hS.1⟩ ?_
  refine HP.lt fun x5 hx5 => HP.lt fun b6 _ => ?_
  have h5 : x5 ≠ [] ∧ x5.length ≤ 64 := by
    subst hx5
    have h := hS.2.1
    rw [irange_len] at h
    refine ⟨fun e => ?_, by omega⟩
    rw [e, List.length_nil] at h
    omega
  refine HP.and (fun _ => ⟨⟨hpo, sm62 (by omega) (by omega)⟩, irange_le (by omega)⟩) (HP.lt fun s10 hs10 => ?_)
  have hall : (irange 0 (1 * 2 ^ ((n : Int)).toNat)) ≠ [] ∧ (irange 0 (1 * 2 ^ ((n : Int)).toNat)).length ≤ 64 := by
    refine ⟨fun e => ?_, by rw [irange_len]; omega⟩
    have := congrArg List.length e
    rw [irange_len, List.length_nil] at this
    omega
  have h10 : s10 ≠ [] ∧ s10.length ≤ 64 := by
    subst hs10
    split
    · show (List.map (fun y => y) _) ≠ [] ∧ (List.map (fun y => y) _).length ≤ 64
      rw [List.map_id']
      exact hall
    · exact h5
  have hd6 := draw_lt b6 (l := (n : Int) + 1) (by omega)
  refine HP.and (fun _ => ⟨okLim_of (by omega) (by omega), lt_i fun x24 _ => lt_i fun b25 _ => ⟨⟨hpo, sm62 (by omega) (by omega)⟩, irange_le (by omega), fun y _ => (law_row_spec y n (by omega)).1⟩⟩) (HP.lt fun s22 hs22 => ?_)
  have h22 : s22.1 ≠ [] ∧ s22.1.length ≤ 64 := by
    subst hs22
    split
    · show (List.map (fun y => y) (List.filter _ _)) ≠ [] ∧ (List.map (fun y => y) (List.filter _ _)).length ≤ 64
      rw [List.map_id']
      refine ⟨fun e => ?_, Nat.le_trans (List.length_filter_le _ _) hall.2⟩
      rw [List.filter_eq_nil_iff] at e
      have ho := ones_there n hn (drawV b6 ((n : Int) + 1)).1.toNat (by omega)
      refine e ((2 ^ (drawV b6 ((n : Int) + 1)).1.toNat - 1 : Nat) : Int) (mem_irange.mpr ⟨by omega, ?_⟩) ?_
      · have h1 : 2 ^ (drawV b6 ((n : Int) + 1)).1.toNat ≤ 2 ^ n := Nat.pow_le_pow_right (by decide) (by omega)
        have h2 : 0 < 2 ^ (drawV b6 ((n : Int) + 1)).1.toNat := Nat.pow_pos (by decide)
        have h3 : (1 : Int) * 2 ^ ((n : Int)).toNat = ((2 ^ n : Nat) : Int) := by simp
        rw [h3]
        omega
      · simp only [decide_eq_true_eq]
        rw [ho]
        omega
    · exact h10
  refine HP.and (fun _ => ⟨⟨sm62 (by omega) (by omega), irange_le (by omega), fun y hy => ⟨?_, ?_⟩⟩, ?_⟩) (HP.lt fun s34 hs34 => ?_)
  · refine inR_nat (Int.le_refl 0) ?_
    have := List.length_pos_iff.mpr h22.1
    omega
  · have := mem_irange.mp hy
    exact powOk2 (by omega) (by omega)
  · have : lim = 1000000 := rfl
    have h1 : (slc s22.1 none (some 2)).length ≤ s22.1.length := by
      unfold slc
      rw [List.length_take, List.length_drop]
      omega
    rw [List.length_map, irange_len]
    omega
  have h34 : 0 < s34.length ∧ s34.length ≤ 100 := by
    have := List.length_pos_iff.mpr h22.1
    subst hs34
    split
    · show 0 < (List.map _ _ ++ slc s22.1 none (some 2)).length ∧ (List.map _ _ ++ slc s22.1 none (some 2)).length ≤ 100
      have h1 : (slc s22.1 none (some 2)).length = min 2 s22.1.length := by
        unfold slc
        rw [HT.sIx_none, show HT.sIx s22.1.length s22.1.length (some (2 : Int)) = min 2 s22.1.length from HT.sIx_nat _ _ 2]
        rw [List.length_take, List.length_drop]
        omega
      rw [List.length_append, List.length_map, irange_len, h1]
      omega
    · exact ⟨this, by omega⟩
  refine HP.and (okLim_of (by omega) (by omega)) (HP.lt fun x39 _ => HP.lt fun b40 _ => HP.lt fun c41 hc41 => ?_)
  have hI := okFor_invN (ok := fun (s49 : ((List (List Int)))) (y42 : Int) => ((((0 < (s34.length : Int))) ∧ (IP.inR s34.length ((x39 + y42) % (s34.length : Int)))) ∧ (ok__law_row (ix s34 ((x39 + y42) % (s34.length : Int))) n)) ∧ (lt ((v__law_row (ix s34 ((x39 + y42) % (s34.length : Int))) n) : (List Int)) fun (x51 : (List Int)) => (((!decide (x51 ∈ s49)) && (decide ((s49.length : Int) < m))) = true → ((s49.length < lim)))))
    (stp := fun (s49 : ((List (List Int)))) (y42 : Int) => (lt ((v__law_row (ix s34 ((x39 + y42) % (s34.length : Int))) n) : (List Int)) fun (x51 : (List Int)) => (if ((!decide (x51 ∈ s49)) && (decide ((s49.length : Int) < m))) then (lt ((s49 ++ [x51]) : List (List Int)) fun c53 => (c53)) else (s49))))
    (fun k out => (∀ r ∈ out, IsRow n r) ∧ out.Nodup ∧ (out.length : Int) ≤ m ∧ (0 < k → out ≠ [])) c41 (by subst hc41; exact ⟨(fun r h => by cases h), List.nodup_nil, (by rw [List.length_nil]; omega), fun h => absurd h (by omega)⟩) s34.length (fun k out hk ⟨i1, i2, i3, i4⟩ => by
      have hr := law_row_spec (ix s34 ((x39 + (k : Int)) % (s34.length : Int))) n (by omega)
      refine ⟨⟨⟨⟨by omega, inR_mod h34.1⟩, hr.1⟩, lt_i fun x51 _ hc => ?_⟩, ?_⟩
      · have : lim = 1000000 := rfl
        omega
      · generalize hx : v__law_row (ix s34 ((x39 + (k : Int)) % (s34.length : Int))) n = x51 at hr
        show _ ∧ _
        simp only [lt, hx]
        by_cases hc : ((!decide (x51 ∈ out)) && (decide ((out.length : Int) < m))) = true
        · rw [if_pos hc]
          simp only [Bool.and_eq_true, Bool.not_eq_true', decide_eq_false_iff_not, decide_eq_true_eq] at hc
          refine ⟨fun r h => ?_, ?_, ?_, fun _ => by simp⟩
          · rcases List.mem_append.mp h with h | h
            · exact i1 r h
            · rw [List.mem_singleton.mp h]
              exact hr.2
          · rw [List.nodup_append]
            refine ⟨i2, by simp, ?_⟩
            intro a ha b hb e
            rw [List.mem_singleton.mp hb] at e
            exact hc.1 (e ▸ ha)
          · rw [List.length_append]
            simp
            omega
        · rw [if_neg hc]
          refine ⟨i1, i2, i3, fun _ e => hc ?_⟩
          rw [e]
          simp
          omega)
  obtain ⟨i1, i2, i3, i4⟩ := hI.2
  refine HP.and (sm62 (by omega) (by omega)) (HP.and hI.1 (HP.lt fun s49 hs49 => ?_))
  subst hs49
  refine HP.done (okSort_of i1 (by omega) i2) ⟨RList.of_out i1 (i4 h34.1) i2, ?_⟩
  rw [(sortT_perm _).length_eq]
  exact i3
end K97

set_option maxHeartbeats 4000000
namespace K97
open PySem PySem.Spec PyProof.Rows L2 IP
theorem right_eq (a b w : List Int) (n : Nat) (ha : a.length = n) (hb : b.length = n) (hw : w.length = n) : v_right_weight a b w = (((irange 0 (n : Int)).filter fun k => decide (ix a k = ix b k)).map fun k => ix w k).sum := by
  unfold v_right_weight
  rw [zip3_ix a b w n ha hb hw, List.filter_map, List.map_map]
  rfl
theorem doubled_eq (a b w : List Int) (n : Nat) (ha : a.length = n) (hb : b.length = n) (hw : w.length = n) : v_doubled a b w = (irange 0 (n : Int)).map fun k => if decide (ix a k = ix b k) then ix w k else 2 * ix w k := by
  unfold v_doubled
  rw [zip3_ix a b w n ha hb hw, List.map_map]
  rfl
theorem sum_nonneg : ∀ xs : List Int, (∀ x ∈ xs, 0 ≤ x) → 0 ≤ xs.sum
  | [], _ => Int.le_refl 0
  | x :: xs, h => by
    rw [List.sum_cons]
    have := sum_nonneg xs fun y m => h y (List.mem_cons_of_mem _ m)
    have := h x List.mem_cons_self
    omega
/-- the first place of the greatest -/
theorem first_max {xs : List Int} (hne : xs ≠ []) {m : Int} {j : Nat} (hj : xs[j]? = some m) (hmax : ∀ x ∈ xs, x ≤ m) (hfirst : ∀ i, i < j → xs[i]? ≠ some m) : idxOf (maxI xs) xs = j := by
  have hm : maxI xs = m := by
    cases xs with
    | nil => exact absurd rfl hne
    | cons x xs =>
      obtain ⟨h1, h2⟩ := maxI_mem x xs
      exact Int.le_antisymm (hmax _ h1) (h2 _ (List.mem_of_getElem? hj))
  rw [hm]
  have hin := idxI_in (List.mem_of_getElem? hj)
  unfold idxOf
  obtain ⟨h1, h2⟩ := idx_at hin
  generalize (idxI m xs).getD 0 = i at h1 h2
  have : i = j := by
    rcases Nat.lt_trichotomy i j with h | h | h
    · exact absurd h1 (hfirst i h)
    · exact h
    · exact absurd rfl (h2 j m h hj)
  rw [this]
theorem argmax_fold (S : Int → Int) (xs : List Int) (hne : xs ≠ []) (hx : ∀ i : Nat, i < xs.length → xs[i]? = some (S i)) (h0 : ∀ x ∈ xs, 0 ≤ x) :
    ((irange 0 (xs.length : Int)).foldl (fun (s : Int × Int) (i : Int) => lt (S i) fun x => (if (decide (x > s.1)) then (lt x fun a => lt i fun b => (a, b)) else (s.1, s.2))) (0 - 1, 0)).2 = idxOf (maxI xs) xs := by
  have h := okFor_invN (ok := fun _ _ => True) (stp := fun (s : Int × Int) (i : Int) => lt (S i) fun x => (if (decide (x > s.1)) then (lt x fun a => lt i fun b => (a, b)) else (s.1, s.2)))
    (fun k s => (k = 0 ∧ s = (0 - 1, 0)) ∨ (0 < k ∧ ∃ j : Nat, s.2 = j ∧ j < k ∧ xs[j]? = some s.1 ∧ (∀ i < k, ∀ v, xs[i]? = some v → v ≤ s.1) ∧ ∀ i < j, xs[i]? ≠ some s.1)) (0 - 1, 0) (.inl ⟨rfl, rfl⟩) xs.length (fun k s hk hI => by
      refine ⟨trivial, ?_⟩
      have hS := hx k hk
      have hS0 := h0 _ (List.mem_of_getElem? hS)
      show _ ∨ _
      simp only [lt]
      rcases hI with ⟨rfl, rfl⟩ | ⟨hp, j, e, hjk, h1, h2, h3⟩
      · rw [if_pos (by simp only [decide_eq_true_eq]; show S ((0 : Nat) : Int) > 0 - 1; omega)]
        refine .inr ⟨by omega, 0, rfl, by omega, hS, fun i hi v hv => ?_, fun i hi => absurd hi (by omega)⟩
        have : i = 0 := by omega
        subst this
        rw [hS] at hv
        cases hv
        exact Int.le_refl _
      · by_cases hc : S k > s.1
        · rw [if_pos (by simpa using hc)]
          refine .inr ⟨by omega, k, rfl, by omega, hS, fun i hi v hv => ?_, fun i hi e => ?_⟩
          · by_cases hik : i = k
            · subst hik
              rw [hS] at hv
              cases hv
              exact Int.le_refl _
            · have := h2 i (by omega) v hv
              show v ≤ S k
              omega
          · have := h2 i hi _ e
            have : S k ≤ s.1 := this
            omega
        · rw [if_neg (by simpa using hc)]
          refine .inr ⟨by omega, j, e, by omega, h1, fun i hi v hv => ?_, h3⟩
          by_cases hik : i = k
          · subst hik
            rw [hS] at hv
            cases hv
            show S i ≤ s.1
            omega
          · exact h2 i (by omega) v hv)
  have hlen := List.length_pos_iff.mpr hne
  rcases h.2 with ⟨h, _⟩ | ⟨_, j, e, hj, h1, h2, h3⟩
  · omega
  · rw [e, first_max hne h1 (fun x hx => ?_) h3]
    obtain ⟨i, hi, rfl⟩ := List.mem_iff_getElem.mp hx
    exact h2 i hi _ (List.getElem?_eq_getElem hi)
/-- what is taken -/
def sums (R : List (List Int)) (b w : List Int) : List Int := R.map fun a => v_right_weight a b w
def bestR (R : List (List Int)) (b w : List Int) : Int := idxOf (maxI (sums R b w)) (sums R b w)
def stepP (R : List (List Int)) (b : List Int) (s : List Int × List Int) : List Int × List Int := (v_doubled (ix R (bestR R b s.1)) b s.1, s.2 ++ [bestR R b s.1])
def F (R : List (List Int)) (b : List Int) (n : Nat) (r : Nat) : List Int × List Int := (irange 0 (r : Int)).foldl (fun s _ => stepP R b s) (rep [1] (n : Int), [])
theorem play_eq (R : List (List Int)) (b : List Int) (n r : Nat) : v_play ((n : Int), R) b r = ((F R b n r).2, (F R b n r).1) := rfl
theorem F_zero (R : List (List Int)) (b : List Int) (n : Nat) : F R b n 0 = (rep [1] (n : Int), []) := rfl
theorem F_succ (R : List (List Int)) (b : List Int) (n r : Nat) : F R b n (r + 1) = stepP R b (F R b n r) := by
  unfold F
  rw [foldl_range_succ]
theorem sums_len (R : List (List Int)) (b w : List Int) : (sums R b w).length = R.length := by simp [sums]
theorem best_in {R : List (List Int)} (b w : List Int) (hne : R ≠ []) : 0 ≤ bestR R b w ∧ bestR R b w < R.length := by
  have h : sums R b w ≠ [] := by simpa [sums] using hne
  have hm : maxI (sums R b w) ∈ sums R b w := by
    cases hs : sums R b w with
    | nil => exact absurd hs h
    | cons x xs => exact (maxI_mem x xs).1
  have := idxI_in hm
  have := (idx_at this).1
  have := (List.getElem?_eq_some_iff.mp this).1
  unfold bestR idxOf
  rw [sums_len] at this
  omega
theorem rep_one (n : Nat) : rep [1] (n : Int) = (irange 0 (n : Int)).map fun _ => (1 : Int) := by
  unfold rep
  rw [irange0, List.map_map, Int.toNat_natCast]
  induction n with
  | zero => rfl
  | succ n ih =>
    rw [List.range_succ, List.map_append, ← ih, List.replicate_succ', List.flatten_append]
    rfl
/-- the weights are 2 to the number of wrong ones -/
def wrongs (R : List (List Int)) (b : List Int) (nums : List Int) (k : Int) : Int := ((nums.filter fun y => (!(decide ((ix (ix R y) k) = (ix b k))))).map fun y => y).length
theorem wrongs_snoc (R : List (List Int)) (b nums : List Int) (x k : Int) : wrongs R b (nums ++ [x]) k = wrongs R b nums k + if ix (ix R x) k = ix b k then 0 else 1 := by
  unfold wrongs
  rw [List.map_id', List.map_id', List.filter_append, List.length_append]
  by_cases h : ix (ix R x) k = ix b k <;> simp [h]
structure FI (R : List (List Int)) (b : List Int) (n : Nat) (k : Nat) (s : List Int × List Int) : Prop where
  len : s.1.length = n
  num : s.2.length = k
  rng : ∀ x ∈ s.2, 0 ≤ x ∧ x < R.length
  wt : s.1 = (irange 0 (n : Int)).map fun j => (2 : Int) ^ (wrongs R b s.2 j).toNat
theorem FI.pos {R : List (List Int)} {b : List Int} {n k : Nat} {s : List Int × List Int} (h : FI R b n k s) : ∀ v ∈ s.1, 0 ≤ v := by
  intro v hv
  rw [h.wt] at hv
  obtain ⟨j, _, rfl⟩ := List.mem_map.mp hv
  exact Int.le_of_lt (pow2_pos _)
theorem FI.zero {R : List (List Int)} {b : List Int} {n : Nat} : FI R b n 0 (rep [1] (n : Int), []) where
  len := by rw [rep_one, List.length_map, irange_len]; omega
  num := rfl
  rng x h := by cases h
  wt := by
    show rep [1] (n : Int) = _
    rw [rep_one]
    refine List.map_congr_left fun j _ => ?_
    rfl
theorem FI.step {R : List (List Int)} {b : List Int} {n k : Nat} {s : List Int × List Int} (hR : RList n R) (hb : b.length = n) (h : FI R b n k s) : FI R b n (k + 1) (stepP R b s) := by
  have hbest := best_in b s.1 hR.ne
  have hrow : (ix R (bestR R b s.1)).length = n := (hR.row _ (ix_mem (inR_nat hbest.1 hbest.2))).1
  have hd := doubled_eq _ b s.1 n hrow hb h.len
  refine ⟨?_, ?_, ?_, ?_⟩
  · show (v_doubled _ _ _).length = n
    rw [hd, List.length_map, irange_len]
    omega
  · show (s.2 ++ [_]).length = _
    rw [List.length_append, h.num]
    rfl
  · intro x hx
    rcases List.mem_append.mp hx with hx | hx
    · exact h.rng x hx
    · rw [List.mem_singleton.mp hx]
      exact hbest
  · show v_doubled _ _ _ = _
    rw [hd]
    refine List.map_congr_left fun j hj => ?_
    obtain ⟨h0, h1⟩ := mem_irange.mp hj
    have hw : ix s.1 j = (2 : Int) ^ (wrongs R b s.2 j).toNat := by
      have := congrArg (fun l => ix l j) h.wt
      rw [ix_map _ _ h0 (by rw [irange_len]; omega), ix_irange h0 h1] at this
      exact this
    show _ = (2 : Int) ^ (wrongs R b (s.2 ++ [bestR R b s.1]) j).toNat
    rw [wrongs_snoc, hw]
    by_cases hc : ix (ix R (bestR R b s.1)) j = ix b j
    · rw [if_pos (by simpa using hc), if_pos hc, Int.add_zero]
    · rw [if_neg (by simpa using hc), if_neg hc]
      have : 0 ≤ wrongs R b s.2 j := Int.natCast_nonneg _
      rw [show (wrongs R b s.2 j + 1).toNat = (wrongs R b s.2 j).toNat + 1 by omega, Int.pow_succ]
      omega
theorem F_inv {R : List (List Int)} {b : List Int} {n : Nat} (hR : RList n R) (hb : b.length = n) : ∀ r, FI R b n r (F R b n r)
  | 0 => FI.zero
  | r + 1 => by
    rw [F_succ]
    exact (F_inv hR hb r).step hR hb
/-- fewer rounds: the first numbers -/
theorem F_take {R : List (List Int)} {b : List Int} {n : Nat} (hR : RList n R) (hb : b.length = n) (f : Nat) : ∀ d, (F R b n (f + d)).2.take f = (F R b n f).2
  | 0 => by
    have := (F_inv hR hb f).num
    exact List.take_of_length_le (by simp only [Nat.add_zero]; omega)
  | d + 1 => by
    rw [← Nat.add_assoc, F_succ]
    show ((F R b n (f + d)).2 ++ [_]).take f = _
    rw [List.take_append_of_le_length (by rw [(F_inv hR hb _).num]; omega)]
    exact F_take hR hb f d
end K97

set_option maxHeartbeats 4000000
namespace K97
open PySem PySem.Spec PyProof.Rows L2 IP
theorem lim_v : lim = 1000000 := rfl
theorem is_row_ok {n : Nat} {r : List Int} (h : IsRow n r) (hn : n ≤ 5) : ok_is_row r n ∧ v_is_row r n = true := by
  have hl := h.1
  refine ⟨fun _ => by rw [lim_v]; omega, ?_⟩
  unfold v_is_row
  rw [if_neg (by simp [h.1])]
  rw [filter_none (p := fun y2 : Int => (!(v_is_value y2))) fun x hx => by
    rcases h.2 x hx with rfl | rfl <;> rfl]
  rfl
theorem rules_ok {n : Nat} {R : List (List Int)} (hR : RList n R) (hn : n ≤ 5) (hl : R.length ≤ 32) : okRules n R := by
  have hpos := List.length_pos_iff.mpr hR.ne
  refine ⟨fun _ => ⟨by rw [lim_v]; omega, fun y hy => (is_row_ok (hR.row y hy) hn).1⟩, ?_, okSortSet_of hR.row (by omega) hR.ne⟩
  unfold v_are_rows
  rw [if_neg (by
    unfold v_is_number v_is_integer
    simp
    exact hR.ne)]
  rw [filter_none (p := fun y3 : List Int => (!(v_is_row y3 n))) fun x hx => by rw [(is_row_ok (hR.row x hx) hn).2]; rfl]
  rfl
theorem look_row {n : Nat} {R : List (List Int)} {row : List Int} (h : IsRow n row) (hn : n ≤ 5) : ok_Rules_look_at_row ((n : Int), R) row := by
  refine ⟨(is_row_ok h hn).1, ?_⟩
  show (!v_is_row row n) = false
  rw [(is_row_ok h hn).2]
  rfl
structure Good (m : Nat) (nums : List Int) : Prop where
  len : nums.length ≤ 250
  rng : ∀ x ∈ nums, 0 ≤ x ∧ x < (m : Int)
section
variable {n : Nat} {R : List (List Int)} {row nums : List Int} (hR : RList n R) (hn : n ≤ 5) (hl : R.length ≤ 32) (hrow : IsRow n row) (hg : Good R.length nums)
include hR hn hl
theorem row_at {x k : Int} (hx : 0 ≤ x ∧ x < (R.length : Int)) (hk : 0 ≤ k ∧ k < (n : Int)) : IP.inR R.length x ∧ IP.inR (ix R x).length k := by
  refine ⟨inR_nat hx.1 hx.2, ?_⟩
  rw [(hR.row _ (ix_mem (inR_nat hx.1 hx.2))).1]
  exact inR_nat hk.1 hk.2
include hg
theorem look_nums : ok_look_at_numbers ((n : Int), R) nums := by
  have h2 := hg.len
  refine ⟨⟨?_, fun _ => ?_⟩, ?_⟩
  · show (R.length : Int) < 2 ^ 63
    omega
  · show nums.length ≤ lim
    rw [lim_v]; omega
  · show (!v_are_numbers_below nums R.length) = false
    unfold v_are_numbers_below v_all_below
    rw [filter_none (p := fun y1 : Int => (!(v_is_number_below y1 R.length))) fun x hx => by
      obtain ⟨h1, h2⟩ := hg.rng x hx
      unfold v_is_number_below v_is_integer
      simp [h1, h2]]
    rfl
include hrow
theorem wrong_ok : ok_wrong_counts ((n : Int), R) row nums ∧ ok__law_wrong R row nums ∧ v_wrong_counts ((n : Int), R) row nums = v__law_wrong R row nums := by
  have h2 := hg.len
  have h3 := hrow.1
  refine ⟨⟨look_row hrow hn, look_nums hR hn hl hg, sm62 (by omega) (show (n : Int) ≤ 1000000 by omega), irange_le (show (n : Int) ≤ 1000000 by omega), fun y hy => ⟨by rw [lim_v]; omega, fun x hx => ?_⟩⟩, ⟨sm62 (by omega) (by omega), irange_le (by omega), fun y hy => ⟨by rw [lim_v]; omega, fun x hx => ?_⟩⟩, ?_⟩
  · have hy := mem_irange.mp hy
    refine ⟨row_at hR hn hl (hg.rng x hx) hy, ?_⟩
    rw [h3]
    exact inR_nat hy.1 hy.2
  · have hy := mem_irange.mp hy
    rw [h3] at hy
    refine ⟨row_at hR hn hl (hg.rng x hx) hy, ?_⟩
    rw [h3]
    exact inR_nat hy.1 hy.2
  · unfold v_wrong_counts v__law_wrong
    rw [h3]
    rfl
omit hrow
theorem voted_ok : ok_voted_by ((n : Int), R) nums ∧ ok__law_voted R n nums ∧ v_voted_by ((n : Int), R) nums = v__law_voted R n nums := by
  have h2 := hg.len
  refine ⟨⟨look_nums hR hn hl hg, sm62 (by omega) (show (n : Int) ≤ 1000000 by omega), irange_le (show (n : Int) ≤ 1000000 by omega), fun y hy => ⟨by rw [lim_v]; omega, fun x hx => row_at hR hn hl (hg.rng x hx) (mem_irange.mp hy)⟩⟩, ⟨⟨sm62 (by omega) (by omega), irange_le (by omega), fun y hy => ⟨by rw [lim_v]; omega, fun x hx => row_at hR hn hl (hg.rng x hx) (mem_irange.mp hy)⟩⟩, lt_i fun x3 hx3 => ?_⟩, ?_⟩
  · rw [hx3, List.length_map]
    exact irange_le (by omega)
  · unfold v_voted_by v__law_voted
    show _ = List.map _ (List.map _ _)
    rw [List.map_map]
    rfl
include hrow
theorem counted_ok : ok__law_counted ((n : Int), R) R row nums ∧ v__law_counted ((n : Int), R) R row nums = true := by
  obtain ⟨a1, a2, a3⟩ := wrong_ok hR hn hl hrow hg
  obtain ⟨b1, b2, b3⟩ := voted_ok hR hn hl hg
  have h3 := hrow.1
  refine ⟨⟨⟨a1, a2, by rw [a3], ?_⟩, fun _ => ⟨b1, ?_, ?_, ?_⟩⟩, rfl⟩
  · refine gd_T ?_ fun x _ => gd_int _ _
    unfold v__law_wrong
    rw [List.length_map]
    exact irange_le (by omega)
  · rw [h3]; exact b2
  · rw [h3, b3]
  · refine gd_T ?_ fun x _ => gd_int _ _
    rw [h3]
    unfold v__law_voted
    show (List.map _ (List.map _ _)).length ≤ lim
    rw [List.length_map, List.length_map]
    exact irange_le (by omega)
end
section
variable {n : Nat} {R : List (List Int)} {row : List Int} (hR : RList n R) (hn : n ≤ 5) (hl : R.length ≤ 32) (hrow : IsRow n row)
include hR hn hl hrow
theorem right_ok {a w : List Int} (ha : a ∈ R) (hw : w.length = n) : ok_right_weight a row w := by
  show (a.zip (row.zip w)).length ≤ lim
  rw [List.length_zip, List.length_zip, hrow.1, hw, (hR.row a ha).1, lim_v]
  omega
theorem heavy_ok {w : List Int} (hw : w.length = n) : ok_heaviest_rule ((n : Int), R) row w := by
  refine ⟨⟨by show R.length ≤ lim; rw [lim_v]; omega, fun a ha => right_ok hR hn hl hrow ha hw⟩, ?_⟩
  show sums R row w ≠ [] ∧ maxI (sums R row w) ∈ sums R row w
  have h : sums R row w ≠ [] := by simpa [sums] using hR.ne
  refine ⟨h, ?_⟩
  cases hs : sums R row w with
  | nil => exact absurd hs h
  | cons x xs => exact (maxI_mem x xs).1
theorem play_ok (r : Nat) (hr : r ≤ 200) : ok_play ((n : Int), R) row r := by
  refine ⟨⟨by show (0 : Int) ≤ (n : Int); omega, by show (n : Int) ≤ 1000; omega, by decide, by decide⟩, ?_⟩
  refine lt_i fun x1 hx1 => lt_i fun c2 hc2 => ⟨sm62 (by omega) (by omega), ?_⟩
  subst hx1 hc2
  refine (okFor_invN (fun k s => FI R row n k s) _ FI.zero r fun k s hk h => ⟨?_, h.step hR hrow.1⟩).1
  have hb := best_in row s.1 hR.ne
  refine ⟨heavy_ok hR hn hl hrow h.len, lt_i fun x11 hx => ⟨by rw [lim_v]; have := h.num; omega, lt_i fun c12 _ => ?_⟩⟩
  have hx : x11 = bestR R row s.1 := hx
  subst hx
  refine ⟨inR_nat hb.1 hb.2, ?_⟩
  show ((ix R (bestR R row s.1)).zip (row.zip s.1)).length ≤ lim
  rw [List.length_zip, List.length_zip, hrow.1, h.len, lim_v]
  omega
theorem taken_ok (r : Nat) (hr : r ≤ 200) : ok_taken ((n : Int), R) row r ∧ ok_weights_behind ((n : Int), R) row r := by
  have h : ok_look_at_rounds ((n : Int), R) row r := by
    refine ⟨look_row hrow hn, ?_⟩
    unfold v_is_number v_is_integer
    simp
  exact ⟨⟨h, play_ok hR hn hl hrow r hr⟩, ⟨h, play_ok hR hn hl hrow r hr⟩⟩
/-- the law's fold -/
def law_stp (R : List (List Int)) (row : List Int) (s : List Int × List Int) (i : Int) : Int := (((irange (0 : Int) (row.length : Int)).filter fun k => (decide ((ix (ix R i) k) = (ix row k)))).map fun k => (ix s.1 k)).sum
omit hl in
theorem law_best {k : Nat} {s : List Int × List Int} (h : FI R row n k s) : ((irange 0 (R.length : Int)).foldl (fun (s39 : Int × Int) (i : Int) => lt (law_stp R row s i) fun x => (if (decide (x > s39.1)) then (lt x fun a => lt i fun b => (a, b)) else (s39.1, s39.2))) (0 - 1, 0)).2 = bestR R row s.1 := by
  have hs : ∀ i : Nat, i < R.length → law_stp R row s i = v_right_weight (ix R i) row s.1 := by
    intro i hi
    have hm := hR.row _ (ix_mem (inR_nat (n := R.length) (i := (i : Int)) (by omega) (by omega)))
    rw [right_eq _ row s.1 n hm.1 hrow.1 h.len]
    unfold law_stp
    rw [hrow.1]
  have := argmax_fold (law_stp R row s) (sums R row s.1) (by simpa [sums] using hR.ne) (fun i hi => by
    rw [sums_len] at hi
    unfold sums
    rw [List.getElem?_map, List.getElem?_eq_getElem hi, hs i hi, ix_at hi]
    rfl) (fun x hx => by
    obtain ⟨a, ha, rfl⟩ := List.mem_map.mp hx
    rw [right_eq _ row s.1 n (hR.row a ha).1 hrow.1 h.len]
    refine sum_nonneg _ fun y hy => ?_
    obtain ⟨k, hk, rfl⟩ := List.mem_map.mp hy
    have hk := mem_irange.mp (List.mem_filter.mp hk).1
    refine h.pos _ (ix_mem ?_)
    rw [h.len]
    exact inR_nat hk.1 hk.2)
  rw [sums_len] at this
  exact this
theorem law_played_eq (r : Nat) (hr : r ≤ 200) : ok__law_played R row r ∧ v__law_played R row r = ((F R row n r).2, (F R row n r).1) := by
  have h3 := hrow.1
  have key := okFor_invN (ok := fun (s29 : ((List Int) × (List Int))) (y4 : Int) => (lt (((0 : Int) - (1 : Int)) : Int) fun (x31 : Int) => (lt ((0 : Int) : Int) fun (x32 : Int) => ((small62 (R.length : Int) = true)) ∧ (okFor (fun (s39 : (Int × Int)) (y33 : Int) => (((small62 (row.length : Int) = true)) ∧ ((irange (0 : Int) (row.length : Int)).length ≤ lim) ∧ (∀ y41 ∈ (irange (0 : Int) (row.length : Int)), ((((IP.inR R.length y33)) ∧ (IP.inR (ix R y33).length y41)) ∧ ((IP.inR row.length y41))) ∧ ((decide ((ix (ix R y33) y41) = (ix row y41))) = true → (IP.inR s29.1.length y41))))) (fun (s39 : (Int × Int)) (y33 : Int) => (lt ((((irange (0 : Int) (row.length : Int)).filter fun (y41 : Int) => (decide ((ix (ix R y33) y41) = (ix row y41)))).map fun (y41 : Int) => (ix s29.1 y41)).sum : Int) fun (x42 : Int) => (if (decide (x42 > s39.1)) then (lt (x42 : Int) fun (x43 : Int) => (lt (y33 : Int) fun (x44 : Int) => (x43, x44))) else (s39.1, s39.2)))) (x31, x32) (irange (0 : Int) (R.length : Int))) ∧ (lt ((List.foldl (fun (s39 : (Int × Int)) (y33 : Int) => (lt ((((irange (0 : Int) (row.length : Int)).filter fun (y41 : Int) => (decide ((ix (ix R y33) y41) = (ix row y41)))).map fun (y41 : Int) => (ix s29.1 y41)).sum : Int) fun (x42 : Int) => (if (decide (x42 > s39.1)) then (lt (x42 : Int) fun (x43 : Int) => (lt (y33 : Int) fun (x44 : Int) => (x43, x44))) else (s39.1, s39.2)))) (x31, x32) (irange (0 : Int) (R.length : Int))) : (Int × Int)) fun (s39 : (Int × Int)) => ((s29.2.length < lim)) ∧ (lt ((s29.2 ++ [s39.2]) : List Int) fun c46 => ((small62 (row.length : Int) = true)) ∧ ((irange (0 : Int) (row.length : Int)).length ≤ lim) ∧ (∀ y47 ∈ (irange (0 : Int) (row.length : Int)), (((((IP.inR R.length s39.2)) ∧ (IP.inR (ix R s39.2).length y47)) ∧ ((IP.inR row.length y47))) ∧ ((decide ((ix (ix R s39.2) y47) = (ix row y47))) = true → (IP.inR s29.1.length y47)) ∧ ((decide ((ix (ix R s39.2) y47) = (ix row y47))) = false → ((IP.inR s29.1.length y47))))))))))
    (stp := fun (s29 : ((List Int) × (List Int))) (y4 : Int) => (lt (((0 : Int) - (1 : Int)) : Int) fun (x31 : Int) => (lt ((0 : Int) : Int) fun (x32 : Int) => (lt ((List.foldl (fun (s39 : (Int × Int)) (y33 : Int) => (lt ((((irange (0 : Int) (row.length : Int)).filter fun (y41 : Int) => (decide ((ix (ix R y33) y41) = (ix row y41)))).map fun (y41 : Int) => (ix s29.1 y41)).sum : Int) fun (x42 : Int) => (if (decide (x42 > s39.1)) then (lt (x42 : Int) fun (x43 : Int) => (lt (y33 : Int) fun (x44 : Int) => (x43, x44))) else (s39.1, s39.2)))) (x31, x32) (irange (0 : Int) (R.length : Int))) : (Int × Int)) fun (s39 : (Int × Int)) => (lt ((s29.2 ++ [s39.2]) : List Int) fun c46 => (lt (((irange (0 : Int) (row.length : Int)).map fun (y47 : Int) => (if (decide ((ix (ix R s39.2) y47) = (ix row y47))) then (ix s29.1 y47) else ((2 : Int) * (ix s29.1 y47)))) : (List Int)) fun (x49 : (List Int)) => (x49, c46)))))))
    (fun k s => FI R row n k s ∧ s = F R row n k) ((irange (0 : Int) (row.length : Int)).map fun (y1 : Int) => (1 : Int), []) (by
      rw [h3, ← rep_one]
      exact ⟨FI.zero, rfl⟩) r (fun k s hk ⟨h, e⟩ => by
      have hbest := law_best hR hn hrow h
      have hb := best_in row s.1 hR.ne
      have hin : ∀ y, y ∈ (irange (0 : Int) (row.length : Int)) → 0 ≤ y ∧ y < (n : Int) := fun y hy => by
        have := mem_irange.mp hy
        rw [h3] at this
        exact this
      have hinn : ∀ (stp : Int × Int → Int → Int × Int) (s0 : Int × Int), okFor (fun (s39 : (Int × Int)) (y33 : Int) => (((small62 (row.length : Int) = true)) ∧ ((irange (0 : Int) (row.length : Int)).length ≤ lim) ∧ (∀ y41 ∈ (irange (0 : Int) (row.length : Int)), ((((IP.inR R.length y33)) ∧ (IP.inR (ix R y33).length y41)) ∧ ((IP.inR row.length y41))) ∧ ((decide ((ix (ix R y33) y41) = (ix row y41))) = true → (IP.inR s.1.length y41))))) stp s0 (irange 0 (R.length : Int)) := fun stp s0 => (okFor_inv (fun _ => True) _ _ trivial fun s39 y33 hy33 _ => ⟨⟨sm62 (by omega) (by omega), irange_le (by omega), fun y hy => by
        have hy := hin y hy
        have hr := row_at hR hn hl (mem_irange.mp hy33) hy
        rw [h3, h.len]
        exact ⟨⟨hr, inR_nat hy.1 hy.2⟩, fun _ => inR_nat hy.1 hy.2⟩⟩, trivial⟩).1
      refine ⟨lt_i fun x31 h31 => lt_i fun x32 h32 => ⟨sm62 (by omega) (by omega), hinn _ _, lt_i fun s39 hs39 => ?_⟩, ?_⟩
      · subst h31 h32
        have e2 : s39.2 = bestR R row s.1 := by
          rw [hs39]
          exact hbest
        refine ⟨by rw [lim_v]; have := h.num; omega, lt_i fun c46 _ => ⟨sm62 (by omega) (by omega), irange_le (by omega), fun y hy => ?_⟩⟩
        have hy := hin y hy
        rw [e2]
        have hr := row_at hR hn hl hb hy
        rw [h3, h.len]
        exact ⟨⟨hr, inR_nat hy.1 hy.2⟩, fun _ => inR_nat hy.1 hy.2, fun _ => inR_nat hy.1 hy.2⟩
      · have e3 : ((irange (0 : Int) (row.length : Int)).map fun (y47 : Int) => (if (decide ((ix (ix R (bestR R row s.1)) y47) = (ix row y47))) then (ix s.1 y47) else ((2 : Int) * (ix s.1 y47))), s.2 ++ [bestR R row s.1]) = stepP R row s := by
          unfold stepP
          rw [doubled_eq _ row s.1 n (hR.row _ (ix_mem (inR_nat hb.1 hb.2))).1 h3 h.len, h3]
        have e4 : (fun s => FI R row n (k + 1) s ∧ s = F R row n (k + 1)) ((irange (0 : Int) (row.length : Int)).map fun (y47 : Int) => (if (decide ((ix (ix R (bestR R row s.1)) y47) = (ix row y47))) then (ix s.1 y47) else ((2 : Int) * (ix s.1 y47))), s.2 ++ [bestR R row s.1]) := by
          rw [e3]
          exact ⟨h.step hR h3, by rw [F_succ, ← e]⟩
        rw [← hbest] at e4
        exact e4)
  refine ⟨⟨⟨sm62 (by omega) (by omega), irange_le (by omega)⟩, lt_i fun x2 hx2 => lt_i fun c3 hc3 => ⟨sm62 (by omega) (by omega), ?_⟩⟩, ?_⟩
  · subst hx2 hc3
    exact key.1
  · have e := key.2.2
    exact congrArg (fun p : List Int × List Int => (p.2, p.1)) e
end
end K97

set_option maxHeartbeats 4000000
namespace IP
theorem HP.iteF {β : Type} {t : Bool} {ok0 : Prop} {x y : β} {P : β → Prop} (h1 : t = true → P x) (h0 : t = false → HP ok0 y P) : HP (t = false → ok0) (if t then x else y) P := by
  cases t with
  | true => exact ⟨(fun h => by cases h), h1 rfl⟩
  | false => exact ⟨fun _ => (h0 rfl).1, (h0 rfl).2⟩
theorem HP.iteT {β : Type} {t : Bool} {ok0 : Prop} {x y : β} {P : β → Prop} (h1 : t = true → HP ok0 x P) (h0 : t = false → P y) : HP (t = true → ok0) (if t then x else y) P := by
  cases t with
  | false => exact ⟨(fun h => by cases h), h0 rfl⟩
  | true => exact ⟨fun _ => (h1 rfl).1, (h1 rfl).2⟩
end IP
namespace K97
open PySem PySem.Spec PyProof.Rows L2 IP
theorem slc_mem {α : Type} {xs : List α} {lo hi : Option Int} {x : α} (h : x ∈ slc xs lo hi) : x ∈ xs := List.mem_of_mem_drop (List.mem_of_mem_take h)
theorem slc_len {α : Type} {xs : List α} {lo hi : Option Int} : (slc xs lo hi).length ≤ xs.length := by
  unfold slc
  rw [List.length_take, List.length_drop]
  omega
theorem numbers_spec (b : GBox) {n : Nat} {R : List (List Int)} (hR : RList n R) (hn : n ≤ 5) (hl : R.length ≤ 32) : HP (ok__law_numbers b R) (v__law_numbers b R) fun p => Good R.length p.1 := by
  have hpos := List.length_pos_iff.mpr hR.ne
  unfold ok__law_numbers v__law_numbers
  refine HP.lt fun x1 hx1 => ?_
  subst hx1
  have hd := draw_lt b (l := 13) (by decide)
  have hS := mapS_draw (fun (y2 : Int) (b3 : GBox) => ((drawV b3 (R.length : Int)).1, (drawV b3 (R.length : Int)).2)) (fun (y2 : Int) (b3 : GBox) => (okLim (R.length : Int))) 0 R.length (fun _ _ => okLim_of (by omega) (by omega)) (fun _ b => draw_lt b (by omega)) (irange 0 (drawV b 13).1) (drawV b 13).2
  refine HP.and ⟨sm62 (by omega) (by omega), irange_le (by omega), hS.1⟩ (HP.lt fun c4 hc4 => HP.lt fun b5 _ => ?_)
  have g4 : Good R.length c4 := by
    subst hc4
    refine ⟨?_, hS.2.2⟩
    rw [hS.2.1, irange_len]
    omega
  have h0 : IP.inR R.length 0 := inR_nat (Int.le_refl 0) (by omega)
  have hl0 : (ix R 0).length = n := (hR.row _ (ix_mem h0)).1
  refine HP.and (fun _ => h0) (HP.iteF (fun _ => g4) fun hc => HP.lt fun b9 _ => ?_)
  simp only [Bool.or_eq_false_iff, decide_eq_false_iff_not] at hc
  have hn0 : 0 < n := by omega
  refine HP.and ⟨h0, okLim_of (by omega) (by omega)⟩ (HP.lt fun x10 hx10 => HP.lt fun b11 _ => ?_)
  have hx10 : 0 ≤ x10 ∧ x10 < (n : Int) := by
    subst hx10
    have := draw_lt b9 (l := ((ix R 0).length : Int)) (by omega)
    rw [hl0] at this ⊢
    exact this
  have hrow : ∀ y ∈ irange 0 (R.length : Int), IP.inR R.length y ∧ IP.inR (ix R y).length x10 := fun y hy => row_at hR hn hl (mem_irange.mp hy) hx10
  refine HP.and ⟨sm62 (by omega) (by omega), irange_le (by omega), hrow⟩ (HP.lt fun x14 hx14 => HP.and ⟨sm62 (by omega) (by omega), irange_le (by omega), hrow⟩ (HP.lt fun x17 hx17 => ?_))
  have hsub : ∀ (p : Int → Bool) (y : Int), y ∈ ((irange 0 (R.length : Int)).filter p).map (fun y => y) → 0 ≤ y ∧ y < (R.length : Int) := fun p y hy => by
    rw [List.map_id'] at hy
    exact mem_irange.mp (List.mem_filter.mp hy).1
  have hlen : ∀ (p : Int → Bool), (((irange 0 (R.length : Int)).filter p).map (fun y => y)).length ≤ 32 := fun p => by
    rw [List.map_id']
    refine Nat.le_trans (List.length_filter_le _ _) ?_
    rw [irange_len]
    omega
  have h14 : (∀ y ∈ x14, 0 ≤ y ∧ y < (R.length : Int)) ∧ x14.length ≤ 32 := by subst hx14; exact ⟨hsub _, hlen _⟩
  have h17 : (∀ y ∈ x17, 0 ≤ y ∧ y < (R.length : Int)) ∧ x17.length ≤ 32 := by subst hx17; exact ⟨hsub _, hlen _⟩
  refine HP.iteF (fun _ => g4) fun hc2 => HP.lt fun c19 hc19 => ?_
  simp only [Bool.or_eq_false_iff, decide_eq_false_iff_not] at hc2
  have hd4 := draw_lt b11 (l := 4) (by decide)
  have key := okFor_invN (ok := fun (s29 : ((List Int) × GBox)) (y20 : Int) => ((((okLim (x14.length : Int))) ∧ (IP.inR x14.length (drawV s29.2 (x14.length : Int)).1)) ∧ (s29.1.length < lim)) ∧ (lt (drawV s29.2 (x14.length : Int)).2 fun (b31 : GBox) => lt ((s29.1 ++ [(ix x14 (drawV s29.2 (x14.length : Int)).1)]) : List Int) fun c32 => ((((okLim (x17.length : Int))) ∧ (IP.inR x17.length (drawV b31 (x17.length : Int)).1)) ∧ (c32.length < lim))))
    (stp := fun (s29 : ((List Int) × GBox)) (y20 : Int) => (lt (drawV s29.2 (x14.length : Int)).2 fun (b31 : GBox) => (lt ((s29.1 ++ [(ix x14 (drawV s29.2 (x14.length : Int)).1)]) : List Int) fun c32 => (lt (drawV b31 (x17.length : Int)).2 fun (b33 : GBox) => (lt ((c32 ++ [(ix x17 (drawV b31 (x17.length : Int)).1)]) : List Int) fun c34 => (c34, b33))))))
    (fun k s => s.1.length = 2 * k ∧ ∀ y ∈ s.1, 0 ≤ y ∧ y < (R.length : Int)) (c19, (drawV b11 (4 : Int)).2) (by subst hc19; exact ⟨rfl, fun y h => by cases h⟩) (1 + (drawV b11 4).1).toNat (fun k s hk ⟨i1, i2⟩ => by
      have e1 := draw_in s.2 (n := x14.length) (by omega)
      refine ⟨⟨⟨⟨okLim_of (by omega) (by omega), e1⟩, by rw [lim_v]; omega⟩, lt_i fun b31 hb => lt_i fun c32 hc => ⟨⟨okLim_of (by omega) (by omega), draw_in b31 (by omega)⟩, ?_⟩⟩, ?_⟩
      · rw [hc, List.length_append, lim_v]
        simp
        omega
      · show _ ∧ _
        simp only [lt]
        refine ⟨?_, fun y hy => ?_⟩
        · simp
          omega
        · rcases List.mem_append.mp hy with hy | hy
          · rcases List.mem_append.mp hy with hy | hy
            · exact i2 y hy
            · rw [List.mem_singleton.mp hy]
              exact h14.1 _ (ix_mem e1)
          · rw [List.mem_singleton.mp hy]
            exact h17.1 _ (ix_mem (draw_in _ (by omega))))
  have et : (((1 + (drawV b11 4).1).toNat : Nat) : Int) = 1 + (drawV b11 4).1 := by omega
  rw [et] at key
  refine HP.done ⟨sm62 (by omega) (by omega), key.1⟩ ?_
  obtain ⟨i1, i2⟩ := key.2
  refine ⟨?_, fun y hy => i2 y (slc_mem hy)⟩
  refine Nat.le_trans slc_len ?_
  rw [i1]
  omega
end K97

set_option maxHeartbeats 4000000
namespace K97
open PySem PySem.Spec PyProof.Rows L2 IP
theorem draw_in' (b : GBox) {n : Nat} {l : Int} (h : 0 < n) (e : l = n) : IP.inR n (drawV b l).1 := by rw [e]; exact draw_in b h
theorem nat_of {x : Int} (h : 0 ≤ x) : ∃ n : Nat, x = n := ⟨x.toNat, by omega⟩
theorem law_all_spec (b : GBox) : HP (ok__law_all b) (v__law_all b) fun w => w = true := by
  unfold ok__law_all v__law_all
  have h1 := draw_in' b (n := 9) (l := 9) (by decide) rfl
  refine HP.and h1 (HP.lt fun x1 hx1 => HP.lt fun b2 _ => ?_)
  have hx1 : 0 ≤ x1 ∧ x1 ≤ 5 := by
    have := ix_mem (xs := ([0, 1, 2, 3, 3, 4, 4, 5, 5] : List Int)) h1
    rw [hx1]
    simp only [List.mem_cons, List.not_mem_nil, or_false] at this
    omega
  obtain ⟨n, rfl⟩ := nat_of hx1.1
  have hn : n ≤ 5 := by omega
  have h2 := draw_in' b2 (n := 8) (l := 8) (by decide) rfl
  have hm := ix_mem (xs := ([8, 8, 4, 4, 6, 5, 3, 32] : List Int)) h2
  simp only [List.mem_cons, List.not_mem_nil, or_false] at hm
  have hL := law_list_spec (drawV b2 8).2 n hn (ix [8, 8, 4, 4, 6, 5, 3, 32] (drawV b2 8).1) (by omega) (by omega)
  refine HP.and ⟨h2, hL.1⟩ (HP.lt fun R hx3 => HP.lt fun b4 _ => ?_)
  have hR : RList n R := by rw [hx3]; exact hL.2.1
  have hl : R.length ≤ 32 := by
    have := hL.2.2
    rw [← hx3] at this
    omega
  have hp2 : (0 : Int) < 1 * 2 ^ ((n : Int)).toNat := by have := pow2_pos ((n : Int)).toNat; omega
  have hp3 : (1 : Int) * 2 ^ ((n : Int)).toNat ≤ 32 := by
    have := pow2_le (n := ((n : Int)).toNat) (m := 5) (by omega)
    omega
  have hpo : PowOkB 1 n = true := powOk2 (by omega) (by omega)
  have hlim2 : okLim (1 * 2 ^ ((n : Int)).toNat) := okLim_of hp2 (by omega)
  have r5 := law_row_spec (drawV b4 (1 * 2 ^ ((n : Int)).toNat)).1 n (by omega)
  refine HP.and ⟨⟨hpo, hlim2⟩, r5.1⟩ (HP.lt fun row hx5 => HP.lt fun b6 _ => ?_)
  have hrow : IsRow n row := by rw [hx5]; exact r5.2
  have h6 := draw_in' b6 (n := 8) (l := 8) (by decide) rfl
  refine HP.and h6 (HP.lt fun x7 hx7 => HP.lt fun b8 _ => ?_)
  have hx7 : 0 ≤ x7 ∧ x7 ≤ 13 := by
    have := ix_mem (xs := ([0, 1, 2, 3, 5, 6, 8, 13] : List Int)) h6
    rw [hx7]
    simp only [List.mem_cons, List.not_mem_nil, or_false] at this
    omega
  refine HP.and (fun _ => draw_in' _ (n := 4) (l := 4) (by decide) rfl) (HP.lt fun s13 hs13 => ?_)
  have h13 : 0 ≤ s13.1 ∧ s13.1 ≤ 200 := by
    rw [hs13]
    split
    · have := ix_mem (xs := ([20, 64, 100, 200] : List Int)) (draw_in' (if (decide ((R.length : Int) < (5 : Int))) then (drawV b8 (4 : Int)).2 else b8) (n := 4) (l := 4) (by decide) rfl)
      simp only [List.mem_cons, List.not_mem_nil, or_false] at this
      show 0 ≤ ix _ _ ∧ ix _ _ ≤ 200
      constructor <;> omega
    · exact ⟨hx7.1, by show x7 ≤ 200; omega⟩
  obtain ⟨r, hr⟩ := nat_of h13.1
  have hr2 : r ≤ 200 := by omega
  refine HP.and (rules_ok hR hn hl) (HP.lt fun x18 hx18 => ?_)
  rw [hR.mkR] at hx18
  subst hx18
  have hp := law_played_eq hR hn hl hrow r hr2
  rw [hr]
  refine HP.and hp.1 (HP.lt fun x19 hx19 => ?_)
  rw [hp.2] at hx19
  subst hx19
  have hF := F_inv hR hrow.1 r
  have ht := taken_ok hR hn hl hrow r hr2
  have hge : ∀ xs : List Int, xs.length ≤ 1000 → gd 6 (eT DV.int xs) := fun xs h => gd_T (n := 5) (by rw [lim_v]; omega) fun x _ => gd_int _ _
  refine HP.and ⟨⟨ht.1, rfl, hge _ (by show (F R row n r).2.length ≤ 1000; rw [hF.num]; omega)⟩, fun _ => ⟨ht.2, rfl, hge _ (by show (F R row n r).1.length ≤ 1000; rw [hF.len]; omega)⟩⟩ (HP.iteF (fun h => by cases h) fun _ => ?_)
  have hg1 : Good R.length (F R row n r).2 := ⟨by rw [hF.num]; omega, hF.rng⟩
  have hc := counted_ok hR hn hl hrow hg1
  refine HP.and hc.1 (HP.iteF (fun h => by rw [show v__law_counted ((n : Int), R) R row ((F R row n r).2, (F R row n r).1).1 = true from hc.2] at h; cases h) fun _ => ?_)
  have hw := wrong_ok hR hn hl hrow hg1
  have hwl : (v__law_wrong R row (F R row n r).2).length = n := by
    unfold v__law_wrong
    rw [List.length_map, irange_len, hrow.1]
    omega
  have hwm : ∀ y ∈ v__law_wrong R row (F R row n r).2, 0 ≤ y ∧ y ≤ 250 := by
    intro y hy
    unfold v__law_wrong at hy
    obtain ⟨k, _, rfl⟩ := List.mem_map.mp hy
    rw [List.map_id']
    have := List.length_filter_le (fun y2 : Int => (!(decide ((ix (ix R y2) k) = (ix row k))))) (F R row n r).2
    rw [hF.num] at this
    omega
  have hwt : (v__law_wrong R row (F R row n r).2).map (fun (y21 : Int) => ((1 : Int) * 2 ^ (y21).toNat)) = (F R row n r).1 := by
    rw [hF.wt]
    unfold v__law_wrong
    rw [List.map_map, hrow.1]
    refine List.map_congr_left fun j _ => ?_
    show (1 : Int) * 2 ^ _ = 2 ^ _
    rw [Int.one_mul]
    rfl
  refine HP.and ⟨hw.2.1, by show (v__law_wrong R row (F R row n r).2).length ≤ lim; rw [hwl, lim_v]; omega, fun y hy => powOk2 (hwm y hy).1 (by have := (hwm y hy).2; omega)⟩ (HP.iteF (fun h => by
    rw [show (List.map (fun (y21 : Int) => ((1 : Int) * 2 ^ (y21).toNat)) (v__law_wrong R row ((F R row n r).2, (F R row n r).1).1)) = ((F R row n r).2, (F R row n r).1).2 from hwt] at h
    simp at h) fun _ => ?_)
  have hmin : 0 ≤ min2 (r : Int) 9 ∧ min2 (r : Int) 9 ≤ r ∧ min2 (r : Int) 9 ≤ 9 := by
    unfold min2
    split <;> omega
  have hdf := draw_lt s13.2 (l := min2 (r : Int) 9 + 1) (by omega)
  refine HP.and (okLim_of (by omega) (by omega)) (HP.lt fun x23 hx23 => HP.lt fun b24 _ => ?_)
  have hx23 : 0 ≤ x23 ∧ x23 ≤ r ∧ x23 ≤ 9 := by rw [hx23]; omega
  obtain ⟨f, rfl⟩ := nat_of hx23.1
  have hf : f ≤ r := by omega
  have hf2 : f ≤ 200 := by omega
  have r25 := law_row_spec (drawV b24 (1 * 2 ^ ((n : Int)).toNat)).1 n (by omega)
  refine HP.and ⟨⟨hpo, hlim2⟩, r25.1⟩ (HP.lt fun other hx25 => HP.lt fun b26 _ => ?_)
  have hother : IsRow n other := by rw [hx25]; exact r25.2
  have hFf := F_inv hR hrow.1 f
  have hFo := F_inv hR hother.1 f
  have htf := taken_ok hR hn hl hrow f hf2
  have hto := taken_ok hR hn hl hother f hf2
  have hpf := law_played_eq hR hn hl hrow f hf2
  have hpO := law_played_eq hR hn hl hother f hf2
  have hsl : slc (F R row n r).2 none (some (f : Int)) = (F R row n f).2 := by
    unfold slc
    rw [HT.sIx_none, HT.sIx_nat, hF.num, List.drop_zero, Nat.sub_zero, Nat.min_eq_left hf]
    have := F_take hR hrow.1 f (r - f)
    rw [show f + (r - f) = r by omega] at this
    exact this
  refine HP.and ⟨htf.1, by
    show eT DV.int (F R row n f).2 = eT DV.int (slc (F R row n r).2 none (some (f : Int)))
    rw [hsl], by
    show gd 6 (eT DV.int (slc (F R row n r).2 none (some (f : Int))))
    rw [hsl]
    exact hge _ (by rw [hFf.num]; omega)⟩ (HP.iteF (fun h => by cases h) fun _ => ?_)
  refine HP.and ⟨hto.1, hpO.1, by rw [hpO.2]; rfl, by rw [hpO.2]; exact hge _ (by show (F R other n f).2.length ≤ 1000; rw [hFo.num]; omega)⟩ (HP.iteF (fun h => by cases h) fun _ => ?_)
  refine HP.and ⟨htf.2, hpf.1, by rw [hpf.2]; rfl, by rw [hpf.2]; exact hge _ (by show (F R row n f).1.length ≤ 1000; rw [hFf.len]; omega)⟩ (HP.iteF (fun h => by cases h) fun _ => ?_)
  have hloop := okForO_inv (ρ := Bool) (ok := fun (s33 : (GBox)) (y27 : Int) => (((((ok__law_numbers s33 R)) ∧ (ok__law_counted ((n : Int), R) R other (v__law_numbers s33 R).1))))) (stp := fun (s33 : (GBox)) (y27 : Int) => (if (!(v__law_counted ((n : Int), R) R other (v__law_numbers s33 R).1)) then (lt (v__law_numbers s33 R).2 fun (b35 : GBox) => (LO.rt false)) else (lt (v__law_numbers s33 R).2 fun (b37 : GBox) => (LO.nx (b37))))) (fun _ => True) (irange (0 : Int) (3 : Int)) b26 trivial (fun s x _ _ => by
    have hN := numbers_spec s hR hn hl
    have hC := counted_ok hR hn hl hother hN.2
    refine ⟨⟨hN.1, hC.1⟩, (v__law_numbers s R).2, ?_, trivial⟩
    rw [hC.2]
    rfl)
  obtain ⟨ho, s33, e33, _⟩ := hloop
  have hN := numbers_spec s33 hR hn hl
  have hV := voted_ok hR hn hl hN.2
  have hW := wrong_ok hR hn hl hrow hN.2
  have hvl : (v__law_voted R n (v__law_numbers s33 R).1).length ≤ 1000 := by
    unfold v__law_voted
    show (List.map _ (List.map _ _)).length ≤ 1000
    rw [List.length_map, List.length_map, irange_len]
    omega
  have hwl2 : (v__law_wrong R row (v__law_numbers s33 R).1).length ≤ 1000 := by
    unfold v__law_wrong
    rw [List.length_map, irange_len, hrow.1]
    omega
  refine HP.and ho ?_
  rw [e33]
  exact ⟨⟨hN.1, ⟨hV.1, hV.2.1, by rw [hV.2.2], hge _ hvl⟩, fun _ => ⟨hW.1, hW.2.1, by rw [hW.2.2], hge _ hwl2⟩⟩, rfl⟩
end K97

open PySem PySem.W PyProof.Rows IP
theorem PySem.Challenge.cw_learnrealm_k97_taken_one_by_one_holds : PySem.Challenge.rw_learnrealm_k97_taken_one_by_one.Holds := by
  exact K97.holds_of K97.roomD fun ns hl _ => K97.ans (fun b => K97.law_all_spec b) ns hl
