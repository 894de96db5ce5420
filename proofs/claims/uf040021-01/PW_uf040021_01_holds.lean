import PyProof.Rows.All
import Wide.All
import Open.Line
import Wide.FinOn
import PyProof.Rows.Top
import PyProof.P3Statements
import PyProof.Cells
import PyProof.RangeIter
import PyProof.ListOps
import PyProof.Rows.Tup
import PyProof.DictRoads
import PyProof.DictKinds
import PyProof.WalksMore
import PyProof.PureInt
import PyProof.P3In
import PyProof.NoPylong
import PyProof.SliceMore
import PyProof.TupleOps
import PyProof.Rows.RuleB_floordiv
import PyProof.Rows.RuleB_mod
import PyProof.Rows.RuleB_mul
import PyProof.Rows.RuleB_pow
import PyProof.Rows.IntRules
import PyProof.Rows.RuleC_int
import PyProof.Rows.EqDataRows
import PyProof.Rows.TupAdd
import PyProof.Rows.Lst
import PyProof.Rows.ListMul
import PyProof.DictStraight
import PyProof.IsRules
import PyProof.ListIndexNeg
import PyProof.Rows.TupMore
import PyProof.ListCopy
import PyProof.ListRange
import PyProof.TupleOfSeq
import PyProof.ConsumeWalk
import PyProof.RangeFor
import PyProof.Conv_int_bool
import PyProof.IsInstanceT
import PyProof.IsiTupleOf
import PyProof.IsiFacts
import PyProof.IsiFacts2
import PyProof.FactsAll.subtypes
import PyProof.Rows.CountFlat
import PyProof.MeetsSeq
import PyProof.AutoSeq1
import PyProof.Rows.SeqMore
import PyProof.Rows.Method
import PyProof.Rows.StrInSeq3
import PyProof.Rows.Globals
import PyProof.ExcAttrAll.ValueError
import PyProof.IsInstance
import PyProof.IsiBase
import PyProof.ExcQuiet
import PyProof.ExcClass2
import PyProof.Rows.TupAssign
import PyProof.Rows.StrTemp
import PyProof.EvalArms
import PyProof.CallType
import PyProof.CompFree
import PyProof.PlainList
import PyProof.ForAny
import PyProof.CompUse
import PyProof.StationsW
import PyProof.RulesAs
import PyProof.ExcBaseAll.ValueError
import PyProof.EnumMake
import PyProof.EnumStmt
import PySem.Challenge.RW_uf040021_01
set_option autoImplicit false
set_option linter.all false
set_option Elab.async false
set_option bootstrap.genMatcherCode false
namespace Mine
open PySem

/-- abstract values: what is never changed is a plain tree; `ref k` is the k-th object of the abstract heap -/
inductive AV where
  | none
  | bool (b : Bool)
  | int (i : Int)
  | str (s : Str)
  | tup (xs : List AV)
  | list (xs : List AV)
  | range (a b : Int)
  | ref (k : Nat)
  | obj (C : Addr)
  | dct (k : Nat)

/-- the lists that may be changed -/
abbrev HP := List (List AV)
abbrev Loc := Str → Option AV
abbrev R (α : Type) := Option (α × HP)

noncomputable def bnd {α β : Type} (r : R α) (f : α → HP → Option β) : Option β :=
  match r with
  | some (a, H) => f a H
  | none => none

noncomputable def upd (ρ : Loc) (x : Str) (v : AV) : Loc := fun y => if y = x then some v else ρ y

inductive Fl where
  | next
  | ret (v : AV)
abbrev RS := Option (Fl × Loc × HP)

/-- what a text's choices are: its defs, which names hold lists that are changed, which defs freeze what they give back -/
structure Cfg where
  fns : List DefRec
  muts : List (Str × Str)
  frz : List Str
  loops : Nat
  exc : List (Str × Addr)
  sub : Addr → Str → Bool
  gis : List (Str × Int)

structure Fm where
  fn : Str
  sc : Scope
  base : Nat
  hnd : Bool

noncomputable def oddName (x : Str) : Bool := (x == ("__debug__" : Str)) || ((x == ("__classdict__" : Str)) || (x == (".0" : Str)))
noncomputable def isLoc (sc : Scope) (x : Str) : Bool :=
  match sc.names.lookup x with
  | some .local => !oddName x
  | some .cell => !oddName x
  | some .free => !oddName x
  | _ => false
noncomputable def isSto (sc : Scope) (x : Str) : Bool :=
  match sc.names.lookup x with
  | some .local => true
  | some .cell => true
  | _ => false
noncomputable def isGlob (sc : Scope) (x : Str) : Bool :=
  match sc.names.lookup x with
  | some .globalImplicit => !oddName x
  | _ => false
noncomputable def isCel (sc : Scope) (x : Str) : Bool :=
  match sc.names.lookup x with
  | some .cell => true
  | some .free => true
  | _ => false
/-- a comprehension's table: its one name is its own, what is free in it is the frame's, nothing is captured further -/
noncomputable def compOk (fsc sc : Scope) (x : Str) : Bool :=
  decide (sc.kind = .function) && decide (sc.names.lookup x = some .local) &&
  sc.names.all fun y => match y.2 with
    | .local => decide (sc.names.lookup y.1 = some .local) && (decide (y.1 = x) || oddName y.1)
    | .cell => false
    | .free => isCel fsc y.1
    | .globalExplicit => false
    | .globalImplicit => true

noncomputable section
/-! ### plain functions on values -/
mutual
/-- as the kit's data -/
noncomputable def toPy : AV → PyData
  | .none => .none
  | .bool b => .bool b
  | .int i => .int i
  | .str s => .str s
  | .tup xs => .tuple (toPys xs)
  | .list xs => .list (toPys xs)
  | .range _ _ => .none
  | .ref _ => .none
  | .obj _ => .none
  | .dct _ => .none
noncomputable def toPys : List AV → List PyData
  | [] => []
  | x :: xs => toPy x :: toPys xs
end
/-- plain data of small depth: no reference, no range -/
noncomputable def okL : AV → Bool
  | .none => true
  | .bool _ => true
  | .int _ => true
  | .str s => PyData.strOk s
  | _ => false
noncomputable def okD : Nat → AV → Bool
  | 0, v => okL v
  | n + 1, v => match v with
    | .tup xs => xs.all (okD n)
    | .list xs => xs.all (okD n)
    | v => okL v
noncomputable def dMax : Nat := 12
mutual
noncomputable def AV.noRef : AV → Bool
  | .tup a => noRefs a
  | .list a => noRefs a
  | .ref _ => false
  | .dct _ => false
  | _ => true
noncomputable def noRefs : List AV → Bool
  | [] => true
  | a :: as => AV.noRef a && noRefs as
end

mutual
noncomputable def rsv (g : Nat → Option AV) : AV → Option AV
  | .tup a => (rsvs g a).map AV.tup
  | .list a => (rsvs g a).map AV.list
  | .ref k => g k
  | .none => some .none
  | .bool b => some (.bool b)
  | .int i => some (.int i)
  | .str s => some (.str s)
  | .range a b => some (.range a b)
  | .obj C => some (.obj C)
  | .dct _ => none
noncomputable def rsvs (g : Nat → Option AV) : List AV → Option (List AV)
  | [] => some []
  | a :: as => match rsv g a with
    | some b => (rsvs g as).map (b :: ·)
    | none => none
end
/-- references are followed -/
noncomputable def hop (H : HP) : Nat → Nat → Option AV
  | 0, _ => none
  | n + 1, k => match H[k]? with
    | some xs => (rsvs (hop H n) xs).map AV.list
    | none => none
noncomputable def fz (H : HP) (v : AV) : Option AV := rsv (hop H 4) v

noncomputable def seqOf (H : HP) : AV → Option (List AV)
  | .list xs => some xs
  | .ref k => H[k]?
  | _ => none
/-- items of a list or a tuple -/
noncomputable def itemsOf (H : HP) : AV → Option (List AV)
  | .list xs => some xs
  | .tup xs => some xs
  | .ref k => H[k]?
  | _ => none
noncomputable def rangeL (a b : Int) : List AV := (List.range (b - a).toNat).map fun (i : Nat) => AV.int (a + (i : Int))
/-- what a loop goes through -/
noncomputable def iterOf : AV → Option (List AV)
  | .list xs => some xs
  | .tup xs => some xs
  | .range a b => some (rangeL a b)
  | _ => none

/-- what a comprehension goes through; a changed list too -/
noncomputable def iterC (H : HP) : AV → Option (List AV)
  | .ref k => H[k]?
  | v => iterOf v
/-- a list that is gone through stays as it is -/
noncomputable def still (v : AV) (xs : List AV) (H : HP) : Prop := match v with
  | .ref k => H[k]? = some xs
  | _ => True

noncomputable def sizeMax : Nat := 1048576
noncomputable def intMax : Int := 4611686018427387903

noncomputable def idx (n : Nat) (i : Int) : Option Nat :=
  if 0 ≤ i then (if i < (n : Int) then some i.toNat else none)
  else (if 0 ≤ i + (n : Int) then some (i + (n : Int)).toNat else none)
/-- a slice's bound, clamped -/
noncomputable def clamp (n : Nat) (i : Int) : Nat :=
  if i < 0 then (i + (n : Int)).toNat else min i.toNat n
noncomputable def sliceL (xs : List AV) (lo hi : Option Int) : List AV :=
  (xs.drop (lo.elim 0 (clamp xs.length))).take (hi.elim xs.length (clamp xs.length) - lo.elim 0 (clamp xs.length))
noncomputable def repL (xs : List AV) : Nat → List AV
  | 0 => []
  | n + 1 => xs ++ repL xs n

noncomputable def small (i : Int) : Bool := decide (-intMax ≤ i ∧ i ≤ intMax)

noncomputable def tiny (i : Int) : Bool := decide (i.natAbs < 1073741824)

noncomputable def ints2 {α : Type} (a b : AV) (f : Int → Int → Option α) : Option α := match a with
  | .int x => (match b with | .int y => f x y | _ => none)
  | _ => none
noncomputable def catL (x y : List AV) : Option AV := if x.length + y.length ≤ sizeMax then some (.list (x ++ y)) else none
noncomputable def catT (x y : List AV) : Option AV := if x.length + y.length ≤ sizeMax then some (.tup (x ++ y)) else none
noncomputable def repV' (x : List AV) (y : Int) : Option AV := if small y && decide (x.length * y.toNat ≤ sizeMax) then some (.list (repL x y.toNat)) else none
noncomputable def addV (H : HP) (a b : AV) : Option AV := match a with
  | .int x => (match b with | .int y => some (.int (x + y)) | _ => none)
  | .tup x => (match b with | .tup y => catT x y | _ => none)
  | a => (match seqOf H a with
    | some x => (match seqOf H b with | some y => catL x y | none => none)
    | none => none)
noncomputable def mulV (H : HP) (a b : AV) : Option AV := match b with
  | .int y => (match a with
    | .int x => if small x && small y then some (.int (x * y)) else none
    | a => (match seqOf H a with | some x => repV' x y | none => none))
  | _ => none
noncomputable def binV (op : Operator) (a b : AV) (H : HP) : Option AV :=
  match op with
  | .Add => addV H a b
  | .Sub => ints2 a b fun x y => some (.int (x - y))
  | .Mult => mulV H a b
  | .FloorDiv => ints2 a b fun x y => if y = 0 || !tiny y then none else some (.int (x.fdiv y))
  | .Mod => ints2 a b fun x y => if y = 0 then none else some (.int (x.fmod y))
  | .Pow => ints2 a b fun x y => if x = 10 && (decide (0 ≤ y) && decide (y ≤ 64)) then some (.int (x ^ y.toNat)) else none
  | _ => none

noncomputable def eqV (H : HP) (a b : AV) : Option Bool :=
  match fz H a with
  | some x => (match fz H b with
    | some y => if okD dMax x && okD dMax y then some (PyData.eqv (toPy x) (toPy y)) else none
    | none => none)
  | none => none

noncomputable def inL (xs : List AV) (a : AV) : Option Bool := if okD dMax (.list xs) && okD dMax a then some ((toPys xs).any fun y => PyData.eqv y (toPy a)) else none
/-- an entry of a dict: its key -/
noncomputable def keyIs (k : Int) (e : AV) : Bool := match e with
  | .tup xs => (match xs with | x :: _ => (match x with | .int j => decide (j = k) | _ => false) | [] => false)
  | _ => false
noncomputable def dKey (i : Int) (es : List AV) : Bool := es.any (keyIs i)
noncomputable def ent (k : Int) (v : AV) : AV := .tup [.int k, v]
noncomputable def dStore (es : List AV) (k : Int) (v : AV) : List AV := if dKey k es then es.map (fun e => if keyIs k e then ent k v else e) else es ++ [ent k v]
noncomputable def inD (H : HP) (a : AV) (d : Nat) : Option Bool := match a with
  | .int i => (H[d]?).map (dKey i)
  | _ => none
noncomputable def inS (H : HP) (a b : AV) : Option Bool :=
  match itemsOf H b with
  | some xs => inL xs a
  | none => none
noncomputable def dctO : AV → Option Nat
  | .dct d => some d
  | _ => none
noncomputable def inV (H : HP) (a b : AV) : Option Bool := match dctO b with
  | some d => inD H a d
  | none => inS H a b
noncomputable def isNoneA : AV → Bool
  | .none => true
  | _ => false

noncomputable def cmpV (op : CmpOp) (a b : AV) (H : HP) : Option Bool :=
  match op with
  | .Lt => ints2 a b fun x y => some (decide (x < y))
  | .LtE => ints2 a b fun x y => some (decide (x ≤ y))
  | .Gt => ints2 a b fun x y => some (decide (y < x))
  | .GtE => ints2 a b fun x y => some (decide (y ≤ x))
  | .Eq => eqV H a b
  | .NotEq => (eqV H a b).map (!·)
  | .In => inV H a b
  | .NotIn => (inV H a b).map (!·)
  | .Is => if isNoneA b then some (isNoneA a) else none
  | .IsNot => if isNoneA b then some (!isNoneA a) else none

noncomputable def constV : Const → Option AV
  | .none => some .none
  | .bool b => some (.bool b)
  | .int i => some (.int i)
  | .str s => some (.str s)
  | _ => none

noncomputable def callLen (H : HP) (v : AV) : Option AV := (itemsOf H v).map fun xs => .int (xs.length : Int)

inductive Ty where
  | tuple | list | str | int | bool
noncomputable def tyOf (x : Str) : Option Ty :=
  if x = "tuple" then some .tuple else if x = "list" then some .list else if x = "str" then some .str
  else if x = "int" then some .int else if x = "bool" then some .bool else none
noncomputable def isTup : Ty → Bool | .tuple => true | _ => false
noncomputable def isLis : Ty → Bool | .list => true | _ => false
noncomputable def isStr : Ty → Bool | .str => true | _ => false
noncomputable def isInt : Ty → Bool | .int => true | _ => false
noncomputable def isBoo : Ty → Bool | .bool => true | _ => false
noncomputable def tyB (v : AV) (t : Ty) : Bool := match v with
  | .tup _ => isTup t
  | .list _ => isLis t
  | .ref _ => isLis t
  | .str _ => isStr t
  | .int _ => isInt t
  | .bool _ => isBoo t || isInt t
  | _ => false
noncomputable def isRng : AV → Bool
  | .range _ _ => true
  | .obj _ => true
  | .dct _ => true
  | _ => false
noncomputable def refOk (H : HP) (v : AV) : Bool := match v with
  | .ref k => (H[k]?).isSome
  | _ => true
/-- what isinstance says -/
noncomputable def isAny (H : HP) (v : AV) (ts : List Ty) : Option Bool := if isRng v || !refOk H v then none else some (ts.any (tyB v))

noncomputable def asBool : AV → Option Bool
  | .bool b => some b
  | _ => none
noncomputable def boolsOf : List AV → Option (List Bool)
  | [] => some []
  | a :: r => (match asBool a with | some b => (boolsOf r).map (b :: ·) | none => none)

inductive BF where
  | len | range | list | all
noncomputable def bfOf (f : Str) : Option BF :=
  if f = "len" then some .len else if f = "range" then some .range else if f = "list" then some .list
  else if f = "all" then some .all else none
/-- built-in functions -/
noncomputable def one (args : List AV) (k : AV → Option AV) : Option AV := match args with
  | [v] => k v
  | _ => none
noncomputable def rngV (v : AV) : Option AV := match v with
  | .int b => if small b then some (.range 0 b) else none
  | _ => none
noncomputable def lstV (H : HP) (v : AV) : Option AV := (itemsOf H v).map AV.list
noncomputable def allV (H : HP) (v : AV) : Option AV := match seqOf H v with | some xs => (boolsOf xs).map fun bs => AV.bool (bs.all id) | none => none
noncomputable def callBF (f : BF) (args : List AV) (H : HP) : Option AV :=
  match f with
  | .len => one args (callLen H)
  | .range => one args rngV
  | .list => one args (lstV H)
  | .all => one args (allV H)
noncomputable def callB (f : Str) (args : List AV) (H : HP) : Option AV :=
  match bfOf f with
  | some f => callBF f args H
  | none => none

noncomputable def setAO (H : HP) (k : Nat) (xs : List AV) : HP := H.set k xs

inductive LM where
  | append | insert | index | count
noncomputable def lmOf (f : Str) : Option LM :=
  if f = "append" then some .append else if f = "insert" then some .insert else if f = "index" then some .index else if f = "count" then some .count else none
/-- what a method of a list gives back, and the list behind it -/
noncomputable def lmV (H : HP) (m : LM) (xs : List AV) (args : List AV) : Option (AV × List AV) :=
  match m with
  | .append => (match args with | [v] => if xs.length < sizeMax then some (.none, xs ++ [v]) else none | _ => none)
  | .insert => (match args with
    | [i, v] => (match i with | .int i => if decide (i = 0) && decide (xs.length < sizeMax) then some (.none, v :: xs) else none | _ => none)
    | _ => none)
  | .index => none
  | .count => none
/-- where a bool stands first -/
noncomputable def idxB (bs : List Bool) (c : Bool) : Option AV := (bs.findIdx? (· == c)).map fun (j : Nat) => AV.int (j : Int)
noncomputable def cntB (bs : List Bool) (c : Bool) : Option AV := some (.int ((bs.countP (· == c) : Nat) : Int))
noncomputable def lmG (m : LM) (bs : List Bool) (c : Bool) : Option AV := match m with
  | .index => idxB bs c
  | .count => cntB bs c
  | _ => none
/-- a method of a list that is never changed -/
noncomputable def lmF (m : LM) (xs : List AV) (args : List AV) : Option AV := match args with
  | [a] => (asBool a).bind fun c => (boolsOf xs).bind fun bs => lmG m bs c
  | _ => none
noncomputable def lmD (m : LM) (v : AV) (args : List AV) (H : HP) : R AV := match v with
  | .ref k => (match H[k]? with
    | some xs => (match lmV H m xs args with
      | some (u, ys) => some (u, setAO H k ys)
      | none => none)
    | none => none)
  | .list xs => (match lmF m xs args with | some u => some (u, H) | none => none)
  | _ => none
noncomputable def methB (f : Str) (o : AV) (args : List AV) (H : HP) : R AV :=
  match lmOf f with
  | some m => lmD m o args H
  | none => none

noncomputable def scalV : AV → Bool
  | .none => true
  | .bool _ => true
  | .int _ => true
  | .str _ => true
  | _ => false
noncomputable def setD (H : HP) (k : Nat) (i : AV) (v : AV) : Option HP := match i with
  | .int i => (match H[k]? with
    | some es => if scalV v && decide (es.length < sizeMax) then some (setAO H k (dStore es i v)) else none
    | none => none)
  | _ => none
noncomputable def setItem (H : HP) (o i v : AV) : Option HP :=
  match o with
  | .dct k => setD H k i v
  | _ => none

noncomputable def getIdx (H : HP) (o i : AV) : Option AV :=
  match i with
  | .int i => (match itemsOf H o with
    | some xs => (match idx xs.length i with | some j => xs[j]? | none => none)
    | none => none)
  | _ => none

noncomputable def getSl (H : HP) (o : AV) (lo hi : Option Int) : Option AV :=
  match o with
  | .tup xs => some (.tup (sliceL xs lo hi))
  | v => (seqOf H v).map fun xs => .list (sliceL xs lo hi)

noncomputable def asOptInt : AV → Option (Option Int)
  | .none => some none
  | .int i => if small i then some (some i) else none
  | _ => none

/-! ### the evaluator -/
noncomputable def lft {α : Type} (o : Option α) (H : HP) : R α :=
  match o with
  | some a => some (a, H)
  | none => none
/-- a name's value -/
noncomputable def lkp (ρ : Loc) (x : Str) (H : HP) : R AV := lft (ρ x) H
noncomputable def sq (r : RS) (k : Loc → HP → RS) : RS :=
  match r with
  | some (.next, ρ, H) => k ρ H
  | some (.ret v, ρ, H) => some (.ret v, ρ, H)
  | none => none
noncomputable def nxt (ρ : Loc) (H : HP) : RS := some (.next, ρ, H)
noncomputable def retS (r : R AV) (ρ : Loc) : RS := bnd r fun v H => some (.ret v, ρ, H)
noncomputable def iteS (r : R Bool) (a b : HP → RS) : RS := bnd r fun c H => match c with | true => a H | false => b H
/-- what a def without a freeze gives back -/
noncomputable def finR (r : RS) : R AV :=
  match r with
  | some (.ret v, _, H) => some (v, H)
  | some (.next, _, H) => some (.none, H)
  | none => none
noncomputable def finZ (r : RS) : R AV :=
  match r with
  | some (.ret v, _, H) => (match fz H v with | some v => some (v, []) | none => none)
  | _ => none

noncomputable def evA : List (HP → R AV) → HP → R (List AV)
  | [], H => some ([], H)
  | e :: es, H => bnd (e H) fun v H => bnd (evA es H) fun vs H => some (v :: vs, H)

noncomputable def cmpA (left : AV) (ops : List CmpOp) (rs : List (HP → R AV)) (H : HP) : R AV := match ops with
  | [op] => (match rs with
    | [r] => bnd (r H) fun b H => bnd (lft (cmpV op left b H) H) fun c H => some (.bool c, H)
    | _ => none)
  | _ => none

/-- one comparison, or two in a row -/
noncomputable def cmpA2 (left : AV) (ops : List CmpOp) (rs : List (HP → R AV)) (H : HP) : R AV := match ops with
  | [op, op'] => (match rs with
    | [r, r'] => bnd (r H) fun b H => bnd (lft (cmpV op left b H) H) fun c H => (match c with
      | true => cmpA b [op'] [r'] H
      | false => some (.bool false, H))
    | _ => none)
  | ops => cmpA left ops rs H

noncomputable def boolV (op : BoolOp) : List (HP → R AV) → HP → R AV
  | [], _ => none
  | [e], H => e H
  | e :: es, H => bnd (e H) fun v H => bnd (lft (asBool v) H) fun b H => (match op, b with
      | .And, true => boolV op es H
      | .And, false => some (.bool false, H)
      | .Or, true => some (.bool true, H)
      | .Or, false => boolV op es H)
noncomputable def boolB (op : BoolOp) : List (HP → R Bool) → HP → R Bool
  | [], H => some ((match op with | .And => true | .Or => false), H)
  | e :: es, H => bnd (e H) fun b H => (match op, b with
      | .And, true => boolB op es H
      | .And, false => some (false, H)
      | .Or, true => some (true, H)
      | .Or, false => boolB op es H)
noncomputable def tob (r : R AV) : R Bool := bnd r fun v H => lft (asBool v) H
noncomputable def notB (r : R Bool) : R Bool := bnd r fun b H => some (!b, H)
noncomputable def notV (r : R AV) : R AV := bnd r fun v H => bnd (lft (asBool v) H) fun b H => some (.bool (!b), H)
noncomputable def negI (v : AV) : Option AV := match v with
  | .int i => some (.int (-i))
  | _ => none
noncomputable def negV (r : R AV) : R AV := bnd r fun v H => lft (negI v) H
noncomputable def binR (op : Operator) (l r : HP → R AV) (H : HP) : R AV := bnd (l H) fun a H => bnd (r H) fun b H => lft (binV op a b H) H
noncomputable def subI (o i : HP → R AV) (H : HP) : R AV := bnd (o H) fun v H => bnd (i H) fun k H => lft (getIdx H v k) H
noncomputable def noneE (H : HP) : R AV := some (.none, H)
noncomputable def subS (o lo hi : HP → R AV) (H : HP) : R AV := bnd (o H) fun v H => bnd (lo H) fun a H => bnd (hi H) fun b H =>
  bnd (lft (asOptInt a) H) fun a H => bnd (lft (asOptInt b) H) fun b H => lft (getSl H v a b) H
noncomputable def listD (es : List (HP → R AV)) (H : HP) : R AV := if es.length ≤ sizeMax then bnd (evA es H) fun vs H => some (.list vs, H) else none
noncomputable def tupD (es : List (HP → R AV)) (H : HP) : R AV := if es.length ≤ sizeMax then bnd (evA es H) fun vs H => some (.tup vs, H) else none
noncomputable def callP (Φ : Nat → Str → List AV → HP → R AV) (base : Nat) (f : Str) (es : List (HP → R AV)) (H : HP) : R AV := bnd (evA es H) fun vs H => Φ base f vs H
noncomputable def callBR (f : Str) (es : List (HP → R AV)) (H : HP) : R AV := bnd (evA es H) fun vs H => lft (callB f vs H) H
noncomputable def isLst (H : HP) : AV → Bool
  | .ref k => (H[k]?).isSome
  | .list _ => true
  | _ => false
noncomputable def methR (base : Nat) (f : Str) (o : HP → R AV) (es : List (HP → R AV)) (H : HP) : R AV := bnd (o H) fun v H => if isLst H v then bnd (evA es H) fun vs H => methB f v vs H else none

open Classical in
noncomputable def stop {β : Type} (v : AV) (xs : List AV) (H : HP) (k : R β) : R β := if still v xs H then k else none
noncomputable def compL (src : AV) (xs : List AV) (tst : Loc → HP → R Bool) (elt : Loc → HP → R AV) (x : Str) (ρ : Loc) : List AV → HP → R (List AV)
  | [], H => stop src xs H (some ([], H))
  | v :: vs, H => stop src xs H (bnd (tst (upd ρ x v) H) fun b H => (match b with
      | true => bnd (elt (upd ρ x v) H) fun y H => bnd (compL src xs tst elt x ρ vs H) fun ys H => some (y :: ys, H)
      | false => compL src xs tst elt x ρ vs H))
noncomputable def compR (tst : Loc → HP → R Bool) (elt : Loc → HP → R AV) (x : Str) (ρ : Loc) (it : HP → R AV) (H : HP) : R (List AV) :=
  bnd (it H) fun s H => bnd (lft (iterC H s) H) fun xs H => if xs.length ≤ sizeMax then compL s xs tst elt x ρ xs H else none
noncomputable def frozenL (r : R (List AV)) : R AV := bnd r fun ys H => some (.list ys, H)
noncomputable def madeL (r : R (List AV)) : R AV := bnd r fun ys H => some (.ref H.length, H ++ [ys])
noncomputable def scal : AV → Bool
  | .none => true
  | .bool _ => true
  | .int _ => true
  | .str _ => true
  | _ => false
noncomputable def scal2 (v : AV) : Bool := scal v || (match v with | .list ys => ys.all scal | _ => false)
noncomputable def mkV (v : AV) (H : HP) : R AV := match v with
  | .list xs => if xs.all scal2 then some (.ref H.length, H ++ [xs]) else none
  | v => some (v, H)
noncomputable def madeV (fresh : Bool) (r : R AV) : R AV := match fresh with
  | true => bnd r mkV
  | false => r

noncomputable def nameOf : PySem.Expr → Option Str
  | .Name x _ => some x
  | _ => none
noncomputable def tupOf : PySem.Expr → Option (List PySem.Expr)
  | .Tuple es _ _ => some es
  | _ => none
noncomputable def tgtNames : List PySem.Expr → Option (List Str)
  | [] => some []
  | e :: r => (match nameOf e with | some x => (tgtNames r).map (x :: ·) | none => none)
noncomputable def updAll (ρ : Loc) : List Str → List AV → Option Loc
  | [], [] => some ρ
  | x :: xs, v :: vs => updAll (upd ρ x v) xs vs
  | _, _ => none
noncomputable def updTup (xs : List Str) (v : AV) (ρ : Loc) : Option Loc :=
  match v with
  | .tup vs => updAll ρ xs vs
  | _ => none
noncomputable def updName (x : Str) (v : AV) (ρ : Loc) : Option Loc := some (upd ρ x v)
noncomputable def noTgt (_ : AV) (_ : Loc) : Option Loc := none
/-- a store into a name, or into names by unpacking a tuple -/
noncomputable def bindTgt (sc : Scope) (t : PySem.Expr) : AV → Loc → Option Loc :=
  match nameOf t with
  | some x => if isSto sc x then updName x else noTgt
  | none => (match tupOf t with
    | some es => (match tgtNames es with
      | some xs => if xs.all (isSto sc) then updTup xs else noTgt
      | none => noTgt)
    | none => noTgt)

noncomputable def forL (body : Loc → HP → RS) (tgt : AV → Loc → Option Loc) : List AV → Loc → HP → RS
  | [], ρ, H => some (.next, ρ, H)
  | v :: vs, ρ, H => (match tgt v ρ with
      | some ρ => sq (body ρ H) fun ρ H => forL body tgt vs ρ H
      | none => none)
noncomputable def forR (body : Loc → HP → RS) (tgt : AV → Loc → Option Loc) (it : HP → R AV) (ρ : Loc) (H : HP) : RS :=
  bnd (it H) fun s H => bnd (lft (iterOf s) H) fun xs H => forL body tgt xs ρ H

noncomputable def dropR (r : R AV) (ρ : Loc) : RS := bnd r fun v H => if isNoneA v then some (.next, ρ, H) else none
noncomputable def asgN (x : Str) (r : R AV) (ρ : Loc) : RS := bnd r fun v H => some (.next, upd ρ x v, H)
noncomputable def asgI (o i e : HP → R AV) (ρ : Loc) (H : HP) : RS := bnd (e H) fun v H => bnd (o H) fun ov H => bnd (i H) fun iv H =>
  match setItem H ov iv v with | some H => some (.next, ρ, H) | none => none
noncomputable def asgT (tgt : AV → Loc → Option Loc) (r : R AV) (ρ : Loc) : RS := bnd r fun v H => match tgt v ρ with | some ρ => some (.next, ρ, H) | none => none

/-- what kind of expression it is, as far as it matters here -/
noncomputable def kindE : PySem.Expr → Nat
  | .Name .. => 1
  | .Subscript .. => 2
  | .List .. => 3
  | .Attribute .. => 4
  | .Starred .. => 5
  | .Set .. => 6
  | .Tuple .. => 7
  | .ListComp .. => 8
  | .SetComp .. => 9
  | .DictComp .. => 10
  | .Slice .. => 11
  | .BinOp .. => 12
  | _ => 0
/-- an expression whose value, where it is a list, is a new one -/
noncomputable def isFresh (e : PySem.Expr) : Bool := match e with
  | .Subscript _ i _ => kindE i == 11
  | .Call f _ _ _ => (match f with | .Name f _ => decide (f = "list") || decide (f = "sum") | _ => false)
  | e => kindE e == 3 || kindE e == 8 || kindE e == 12

noncomputable def tyOne (sc : Scope) (e : PySem.Expr) : Option Ty := match nameOf e with
  | some t => if isGlob sc t then tyOf t else none
  | none => none
noncomputable def tyTwo (sc : Scope) (es : List PySem.Expr) : Option (List Ty) := match es with
  | [a, b] => (match tyOne sc a with
    | some t => (match tyOne sc b with | some u => some [t, u] | none => none)
    | none => none)
  | _ => none
noncomputable def tyNames (sc : Scope) (e : PySem.Expr) : Option (List Ty) := match tupOf e with
  | some es => tyTwo sc es
  | none => (tyOne sc e).map ([·])
noncomputable def isR (ts : List Ty) (r : R AV) : R AV := bnd r fun v H => bnd (lft (isAny H v ts) H) fun b H => some (.bool b, H)

/-- the name of a class of exceptions -/
noncomputable def exOne (C : Cfg) (sc : Scope) (e : PySem.Expr) : Option Str := match nameOf e with
  | some y => if isGlob sc y && ((C.exc.lookup y).isSome || decide (y = "ValueError")) then some y else none
  | none => none
noncomputable def isE (C : Cfg) (y : Str) (r : R AV) : R AV := bnd r fun v H => match v with
  | .obj D => if C.exc.any fun p => p.2 == D then some (.bool (C.sub D y), H) else none
  | _ => none
/-- a method call of the plain form: its base is no call, it stands on one line -/
noncomputable def plainBase (e : PySem.Expr) : Bool := Nat.ble 1 (kindE e) && Nat.ble (kindE e) 4
noncomputable def noStar (e : PySem.Expr) : Bool := !(kindE e == 5)
noncomputable def mOk (o : PySem.Expr) (ap pos : Pos) (args : List PySem.Expr) : Bool := plainBase o && decide (ap.endLine = pos.line) && decide (args.length < 20) && args.all noStar

noncomputable def notSet (e : PySem.Expr) : Bool := !(kindE e == 6)

noncomputable def compHd (fsc sc : Scope) (x : Str) (a : Int) (it : PySem.Expr) : Bool := decide (a = 0) && (compOk fsc sc x && notSet it)
abbrev Phi := Nat → Str → List AV → HP → R AV

noncomputable def fnNames (C : Cfg) (f : Str) : Option DefRec := C.fns.find? fun d => decide (d.name = f)

/-- an int that the module names -/
noncomputable def gInt (C : Cfg) (sc : Scope) (x : Str) : Option AV := if isGlob sc x then (C.gis.lookup x).map AV.int else none
/-- the name under which it is asked what a def's call raises -/
noncomputable def bang (f : Str) : Str := f ++ ("!" : Str)
/-- the name under which a def is called inside a handler -/
noncomputable def qn (f : Str) : Str := f ++ ("?" : Str)
mutual
noncomputable def evalE (C : Cfg) (Φ : Phi) : Nat → Fm → PySem.Expr → Loc → HP → R AV
  | 0, _, _, _, _ => none
  | d + 1, fm, e, ρ, H => match e with
    | .Constant c _ _ => lft (constV c) H
    | .Name x _ => if isLoc fm.sc x then lkp ρ x H else lft (gInt C fm.sc x) H
    | .BinOp l op r _ => binR op (fun H => evalE C Φ d fm l ρ H) (fun H => evalE C Φ d fm r ρ H) H
    | .UnaryOp op x _ => (match op with
      | .Not => notV (evalE C Φ d fm x ρ H)
      | .USub => negV (evalE C Φ d fm x ρ H)
      | _ => none)
    | .BoolOp op es _ => boolV op (es.map fun e H => evalE C Φ d fm e ρ H) H
    | .Compare l ops rs _ => if rs.all notSet then bnd (evalE C Φ d fm l ρ H) fun a H => cmpA a ops (rs.map fun e H => evalE C Φ d fm e ρ H) H else none
    | .List es _ => listD (es.map fun e H => evalE C Φ d fm e ρ H) H
    | .Tuple es _ _ => tupD (es.map fun e H => evalE C Φ d fm e ρ H) H
    | .Subscript o i _ => (match i with
      | .Slice lo hi st _ => (match st with
        | none => subS (fun H => evalE C Φ d fm o ρ H) (match lo with | some e => fun H => evalE C Φ d fm e ρ H | none => noneE) (match hi with | some e => fun H => evalE C Φ d fm e ρ H | none => noneE) H
        | some _ => none)
      | i => subI (fun H => evalE C Φ d fm o ρ H) (fun H => evalE C Φ d fm i ρ H) H)
    | .ListComp elt gens sc _ => (match gens with
      | [g] => (match g.target with
        | .Name x _ => if !fm.hnd && compHd fm.sc sc x g.is_async g.iter then
            frozenL (compR (fun ρ H => boolB .And (g.ifs.map fun e H => evalB C Φ d { fm with sc := sc } e ρ H) H) (fun ρ H => evalE C Φ d { fm with sc := sc } elt ρ H) x ρ (fun H => evalE C Φ d fm g.iter ρ H) H)
          else none
        | _ => none)
      | _ => none)
    | .Call f args kws pos => (match kws with
      | [] => (match f with
        | .Name g _ =>
          if isGlob fm.sc g then
            (match fnNames C g with
            | some _ => if fm.hnd then callP Φ fm.base (qn g) (args.map fun e H => evalE C Φ d fm e ρ H) H else callP Φ fm.base g (args.map fun e H => evalE C Φ d fm e ρ H) H
            | none =>
              if g = "isinstance" then (match args with
                | [x, t] => if noStar x then (match tyNames fm.sc t with
                  | some ts => isR ts (evalE C Φ d fm x ρ H)
                  | none => (match exOne C fm.sc t with
                    | some y => isE C y (evalE C Φ d fm x ρ H)
                    | none => none)) else none
                | _ => none)
              else if fm.hnd then none else callBR g (args.map fun e H => evalE C Φ d fm e ρ H) H)
          else none
        | .Attribute o m ap => if mOk o ap pos args then methR fm.base m (fun H => evalE C Φ d fm o ρ H) (args.map fun e H => evalE C Φ d fm e ρ H) H else none
        | _ => none)
      | _ => none)
    | _ => none
noncomputable def evalB (C : Cfg) (Φ : Phi) : Nat → Fm → PySem.Expr → Loc → HP → R Bool
  | 0, _, _, _, _ => none
  | d + 1, fm, e, ρ, H => match e with
    | .UnaryOp op x _ => (match op with
      | .Not => notB (evalB C Φ d fm x ρ H)
      | _ => none)
    | .BoolOp op es _ => boolB op (es.map fun e H => evalB C Φ d fm e ρ H) H
    | .Compare l ops rs _ => if rs.all notSet then tob (bnd (evalE C Φ d fm l ρ H) fun a H => cmpA2 a ops (rs.map fun e H => evalE C Φ d fm e ρ H) H) else none
    | e => tob (evalE C Φ d fm e ρ H)
end

noncomputable def newD (ks : List (Option PySem.Expr)) (vs : List PySem.Expr) (H : HP) : R AV := if ks.isEmpty && vs.isEmpty then some (.dct H.length, H ++ [[]]) else none
/-- a value for a name that holds what is changed: new lists become objects of the abstract heap -/
noncomputable def evalM (C : Cfg) (Φ : Phi) : Nat → Fm → PySem.Expr → Loc → HP → R AV
  | 0, _, _, _, _ => none
  | d + 1, fm, e, ρ, H => match e with
    | .Tuple es _ _ => tupD (es.map fun e H => evalM C Φ d fm e ρ H) H
    | .ListComp elt gens sc _ => (match gens with
      | [g] => (match g.target with
        | .Name x _ => if !fm.hnd && compHd fm.sc sc x g.is_async g.iter then
            madeL (compR (fun ρ H => boolB .And (g.ifs.map fun e H => evalB C Φ d { fm with sc := sc } e ρ H) H) (fun ρ H => evalM C Φ d { fm with sc := sc } elt ρ H) x ρ (fun H => evalE C Φ d fm g.iter ρ H) H)
          else none
        | _ => none)
      | _ => none)
    | .Dict ks vs _ => newD ks vs H
    | e => madeV (isFresh e) (evalE C Φ d fm e ρ H)

noncomputable def isTupleD (e : PySem.Expr) : Bool := kindE e == 7
noncomputable def isCompD (e : PySem.Expr) : Bool := Nat.ble 8 (kindE e) && Nat.ble (kindE e) 10

/-! ### exceptions -/
noncomputable def exV (r : R AV) : R Addr := match r with
  | some (v, H) => (match v with | .obj D => some (D, H) | _ => none)
  | none => none
/-- a call that raises -/
noncomputable def rzC (Φ : Phi) (base : Nat) (f : Str) (es : List (HP → R AV)) (H : HP) : R Addr := bnd (evA es H) fun vs H => exV (Φ base (bang f) vs H)
noncomputable def rzq (r : RS) (k : Loc → HP → R Addr) (x : R Addr) : R Addr := match r with
  | some (fl, ρ, H) => (match fl with | .next => k ρ H | .ret _ => none)
  | none => x
noncomputable def rzI (r : R Bool) (a b : HP → R Addr) : R Addr := bnd r fun c H => match c with | true => a H | false => b H
noncomputable def rzL (body : Loc → HP → RS) (rb : Loc → HP → R Addr) (tgt : AV → Loc → Option Loc) : List AV → Loc → HP → R Addr
  | [], _, _ => none
  | v :: vs, ρ, H => (match tgt v ρ with
      | some ρ => rzq (body ρ H) (fun ρ H => rzL body rb tgt vs ρ H) (rb ρ H)
      | none => none)
noncomputable def rzF (body : Loc → HP → RS) (rb : Loc → HP → R Addr) (tgt : AV → Loc → Option Loc) (it : HP → R AV) (ρ : Loc) (H : HP) : R Addr :=
  bnd (it H) fun s H => bnd (lft (iterOf s) H) fun xs H => rzL body rb tgt xs ρ H
noncomputable def strC : Const → Option Str
  | .str s => some s
  | _ => none
noncomputable def constOf : PySem.Expr → Option Const
  | .Constant c _ _ => some c
  | _ => none
/-- a call of a name, without keywords -/
noncomputable def callOf : PySem.Expr → Option (Str × List PySem.Expr)
  | .Call f args kws _ => (match kws with | [] => (nameOf f).map fun g => (g, args) | _ :: _ => none)
  | _ => none
noncomputable def isStrC (e : PySem.Expr) : Bool := ((constOf e).bind strC).isSome
noncomputable def oneA (args : List PySem.Expr) : Bool := match args with | [a] => isStrC a | _ => false
/-- raise X('..') : the class -/
noncomputable def rzR (C : Cfg) (fm : Fm) (exc cause : Option PySem.Expr) : Option Addr := (exc.bind callOf).bind fun z => if cause.isNone && (isGlob fm.sc z.1 && (oneA z.2 && !fm.hnd)) then C.exc.lookup z.1 else none
noncomputable def isCallD (C : Cfg) (fm : Fm) (e : PySem.Expr) : Option (Str × List PySem.Expr) := (callOf e).bind fun z => if isGlob fm.sc z.1 && (!fm.hnd && (fnNames C z.1).isSome) then some z else none
noncomputable def rzE (C : Cfg) (Φ : Phi) (d : Nat) (fm : Fm) (e : PySem.Expr) (ρ : Loc) (H : HP) : R Addr := match isCallD C fm e with
  | some (g, args) => rzC Φ fm.base g (args.map fun e H => evalE C Φ d fm e ρ H) H
  | none => none
noncomputable def isLocN (sc : Scope) (n : Str) : Bool := decide (sc.names.lookup n = some .local) && !oddName n
/-- except Y as n -/
noncomputable def hdlOf (C : Cfg) (sc : Scope) (h : ExceptHandler) : Option (Str × (Str × List PySem.Stmt)) := match h with
  | .ExceptHandler ty nm bd _ => (match ty with
    | some t => (match nm with
      | some n => (match nameOf t with
        | some y => if isGlob sc y && ((C.exc.lookup y).isSome && (isLocN sc n && !bd.isEmpty)) then some (y, n, bd) else none
        | none => none)
      | none => none)
    | none => none)
noncomputable def locNil : Loc := fun _ => none
/-- behind a handler no name's value is known -/
noncomputable def delS (r : RS) : RS := match r with
  | some (fl, _, H) => some (fl, locNil, H)
  | none => none
noncomputable def tryR (C : Cfg) (y n : Str) (r : RS) (x : R Addr) (hb : Loc → HP → RS) (ρ : Loc) : RS := match r with
  | some z => some z
  | none => bnd x fun D H => if (C.exc.any fun p => p.2 == D) && C.sub D y then delS (hb (upd ρ n (.obj D)) H) else none
noncomputable def tryA (C : Cfg) (hnd : Bool) (z : Option (Str × (Str × List PySem.Stmt))) (r : RS) (x : R Addr) (k : List PySem.Stmt → Loc → HP → RS) (ρ : Loc) : RS := match z with
  | some z => (match hnd with | true => none | false => tryR C z.1 z.2.1 r x (k z.2.2) ρ)
  | none => none
/-- enumerate(x), the iterable of a loop over pairs -/
noncomputable def enumOf (sc : Scope) (t it : PySem.Expr) : Option PySem.Expr := (callOf it).bind fun z => if (tupOf t).isSome && (decide (z.1 = "enumerate") && isGlob sc z.1) then (match z.2 with | [x] => some x | _ => none) else none
noncomputable def enumL : Nat → List AV → List AV
  | _, [] => []
  | i, x :: r => .tup [.int (i : Int), x] :: enumL (i + 1) r
noncomputable def enumV : AV → Option AV
  | .list xs => some (.list (enumL 0 xs))
  | _ => none
noncomputable def enumR (r : R AV) : R AV := bnd r fun v H => lft (enumV v) H
noncomputable def forIt (z : Option PySem.Expr) (it : PySem.Expr) (f : PySem.Expr → HP → R AV) (H : HP) : R AV := match z with
  | some x => enumR (f x H)
  | none => f it H
/-- what the one statement of a try raises -/
noncomputable def rzT (C : Cfg) (Φ : Phi) (d : Nat) (fm : Fm) (b : List PySem.Stmt) (ρ : Loc) (H : HP) : R Addr := match b with
  | [st] => (match st with
    | .Expr e _ => rzE C Φ d fm e ρ H
    | .Return e _ => (match e with | some e => rzE C Φ d fm e ρ H | none => none)
    | .Assign ts e _ => (match ts with
      | [t] => (match nameOf t with | some _ => if isCompD e then none else rzE C Φ d fm e ρ H | none => none)
      | _ => none)
    | _ => none)
  | _ => none

mutual
noncomputable def execS (C : Cfg) (Φ : Phi) : Nat → Fm → PySem.Stmt → Loc → HP → RS
  | 0, _, _, _, _ => none
  | d + 1, fm, st, ρ, H => match st with
    | .Pass _ => nxt ρ H
    | .Expr e _ => if isCompD e then none else dropR (evalE C Φ d fm e ρ H) ρ
    | .Return e _ => (match e with
      | some e => retS (if C.muts.contains (fm.fn, ("return" : Str)) then evalM C Φ d fm e ρ H else evalE C Φ d fm e ρ H) ρ
      | none => retS (noneE H) ρ)
    | .Assign ts e _ => (match ts with
      | [t] => (match t with
        | .Name x _ => if isSto fm.sc x then
            (if C.muts.contains (fm.fn, x) then asgN x (evalM C Φ d fm e ρ H) ρ else asgN x (evalE C Φ d fm e ρ H) ρ)
          else none
        | .Tuple es k p => if fm.hnd || (isTupleD e || isCompD e) then none else asgT (bindTgt fm.sc (.Tuple es k p)) (evalE C Φ d fm e ρ H) ρ
        | .Subscript o i _ => if isCompD e then none else asgI (fun H => evalE C Φ d fm o ρ H) (fun H => evalE C Φ d fm i ρ H) (fun H => evalE C Φ d fm e ρ H) ρ H
        | _ => none)
      | _ => none)
    | .If t b o _ => iteS (evalB C Φ d fm t ρ H) (fun H => execSs C Φ d fm b ρ H) (fun H => execSs C Φ d fm o ρ H)
    | .For t it b orelse _ => (match orelse with
      | [] => if !fm.hnd && notSet it then forR (fun ρ H => execSs C Φ d fm b ρ H) (bindTgt fm.sc t) (forIt (enumOf fm.sc t it) it fun e H => evalE C Φ d fm e ρ H) ρ H else none
      | _ => none)
    | .Try b hs orelse fin _ => (match fin with
      | [] => (match orelse with
        | [] => (match hs with
          | [h] => tryA C fm.hnd (hdlOf C fm.sc h) (execSs C Φ d fm b ρ H) (rzT C Φ d fm b ρ H) (fun hb ρ H => execSs C Φ d { fm with hnd := true } hb ρ H) ρ
          | _ => none)
        | _ => none)
      | _ => none)
    | _ => none
noncomputable def execSs (C : Cfg) (Φ : Phi) : Nat → Fm → List PySem.Stmt → Loc → HP → RS
  | 0, _, _, _, _ => none
  | d + 1, fm, sts, ρ, H => match sts with
    | [] => nxt ρ H
    | st :: rest => sq (execS C Φ d fm st ρ H) fun ρ H => execSs C Φ d fm rest ρ H
noncomputable def rzS (C : Cfg) (Φ : Phi) : Nat → Fm → PySem.Stmt → Loc → HP → R Addr
  | 0, _, _, _, _ => none
  | d + 1, fm, st, ρ, H => match st with
    | .Raise exc cause _ => lft (rzR C fm exc cause) H
    | .Expr e _ => rzE C Φ d fm e ρ H
    | .If t b o _ => rzI (evalB C Φ d fm t ρ H) (fun H => rzSs C Φ d fm b ρ H) (fun H => rzSs C Φ d fm o ρ H)
    | .For t it b orelse _ => (match orelse with
      | [] => if !fm.hnd && notSet it then rzF (fun ρ H => execSs C Φ d fm b ρ H) (fun ρ H => rzSs C Φ d fm b ρ H) (bindTgt fm.sc t) (forIt (enumOf fm.sc t it) it fun e H => evalE C Φ d fm e ρ H) ρ H else none
      | _ => none)
    | _ => none
noncomputable def rzSs (C : Cfg) (Φ : Phi) : Nat → Fm → List PySem.Stmt → Loc → HP → R Addr
  | 0, _, _, _, _ => none
  | d + 1, fm, sts, ρ, H => match sts with
    | [] => none
    | st :: rest => rzq (execS C Φ d fm st ρ H) (fun ρ H => rzSs C Φ d fm rest ρ H) (rzS C Φ d fm st ρ H)
end

noncomputable def noArgs (a : Arguments) : Bool := a.posonlyargs.isEmpty && (a.vararg.isNone && (a.kwonlyargs.isEmpty && (a.kw_defaults.isEmpty && (a.kwarg.isNone && a.defaults.isEmpty))))
noncomputable def plainArgs (a : Arguments) : Option (List Str) := if noArgs a then some (a.args.map (·.arg)) else none

/-- depth of syntax that one def's body may have -/
noncomputable def synMax : Nat := 60

/-- a def by the name under which it is asked what it raises -/
noncomputable def bangOf (C : Cfg) (f : Str) : Option DefRec := C.fns.find? fun d => decide (bang d.name = f)
noncomputable def callX (C : Cfg) (Φ : Phi) (base : Nat) (d : DefRec) (args : List AV) (H : HP) : R AV := match plainArgs d.params with
  | none => none
  | some xs => (match updAll locNil xs args with
    | none => none
    | some ρ => if C.frz.contains d.name then none else (match rzSs C Φ synMax ⟨d.name, d.scope, base, false⟩ d.body ρ H with
      | some (D, H) => some (.obj D, H)
      | none => none))
noncomputable def quOf (C : Cfg) (f : Str) : Option DefRec := C.fns.find? fun d => decide (qn d.name = f)
noncomputable def callY (C : Cfg) (Φ : Phi) (base : Nat) (d : DefRec) (args : List AV) (H : HP) : R AV := match plainArgs d.params with
  | none => none
  | some xs => (match updAll locNil xs args with
    | none => none
    | some ρ => if C.frz.contains d.name then none else finR (execSs C Φ synMax ⟨d.name, d.scope, base, true⟩ d.body ρ H))
noncomputable def callO (C : Cfg) (Φ : Phi) (base : Nat) (f : Str) (args : List AV) (H : HP) : R AV := match bangOf C f with
  | some d => callX C Φ base d args H
  | none => (match quOf C f with
    | some d => callY C Φ base d args H
    | none => none)
/-- a def's call -/
noncomputable def callS (C : Cfg) (Φ : Phi) (base : Nat) (f : Str) (args : List AV) (H : HP) : R AV := match fnNames C f with
  | none => callO C Φ base f args H
  | some d => (match plainArgs d.params with
    | none => none
    | some xs => (match updAll locNil xs args with
      | none => none
      | some ρ =>
        if C.frz.contains f then (match H with
          | [] => finZ (execSs C Φ synMax ⟨f, d.scope, 0, false⟩ d.body ρ [])
          | _ :: _ => none)
        else finR (execSs C Φ synMax ⟨f, d.scope, base, false⟩ d.body ρ H)))
noncomputable def callF (C : Cfg) : Nat → Phi
  | 0, _, _, _, _ => none
  | n + 1, base, f, args, H => callS C (callF C n) base f args H

end
end Mine

namespace Mine
open PySem PyProof.Rows

abbrev listO (vs : List Value) (n : Nat) : Obj := { cls := .type "list", data := .seq vs.toArray n }
abbrev tupO (vs : List Value) (n : Nat) : Obj := { cls := .type "tuple", data := .seq vs.toArray n }

/-- an exception of the class at C -/
noncomputable def isExc (C : Addr) (o : Obj) : Prop := o.cls = .ref C ∧ ∃ vs, o.data = .fields vs
noncomputable def isDict (o : Obj) : Prop := ∃ es n, o.data = .dict es n
noncomputable def noDict (o : Obj) : Prop := ¬ isDict o
theorem noDict_list {vs : List Value} {n : Nat} : noDict (listO vs n) := fun ⟨_, _, q⟩ => nomatch q
theorem noDict_tup {vs : List Value} {n : Nat} : noDict (tupO vs n) := fun ⟨_, _, q⟩ => nomatch q
mutual
/-- the value `v` stands for `a` in the heap `h`; what is frozen lies at no address of σ (the changing objects) or X (set aside) -/
inductive Cv (h : Heap) (σ X : List Addr) : AV → Value → Prop
  | none : Cv h σ X .none .none
  | bool (b : Bool) : Cv h σ X (.bool b) (.bool b)
  | int (i : Int) (t : Tok) : Cv h σ X (.int i) (.int i t)
  | str (s : Str) (t : Tok) : Cv h σ X (.str s) (.str s t)
  | tup {xs : List AV} {a : Addr} {vs : List Value} {n : Nat} : h.get? a = some (tupO vs n) → a ∉ σ → a ∉ X → xs.length ≤ sizeMax → CvL h σ X xs vs → Cv h σ X (.tup xs) (.ref a)
  | list {xs : List AV} {a : Addr} {vs : List Value} {n : Nat} : h.get? a = some (listO vs n) → a ∉ σ → a ∉ X → xs.length ≤ sizeMax → CvL h σ X xs vs → Cv h σ X (.list xs) (.ref a)
  | range {a : Addr} {lo hi : Int} {t u v : Tok} : IsRange h a lo hi 1 t u v → a ∉ σ → a ∉ X → small lo = true → small hi = true → Cv h σ X (.range lo hi) (.ref a)
  | ref {k : Nat} {a : Addr} {o : Obj} : σ[k]? = some a → h.get? a = some o → noDict o → Cv h σ X (.ref k) (.ref a)
  | dct {k : Nat} {a : Addr} {o : Obj} : σ[k]? = some a → h.get? a = some o → isDict o → Cv h σ X (.dct k) (.ref a)
  | obj {C : Addr} {a : Addr} {o : Obj} : h.get? a = some o → isExc C o → a ∉ σ → a ∉ X → Cv h σ X (.obj C) (.ref a)
inductive CvL (h : Heap) (σ X : List Addr) : List AV → List Value → Prop
  | nil : CvL h σ X [] []
  | cons {x : AV} {xs : List AV} {v : Value} {vs : List Value} : Cv h σ X x v → CvL h σ X xs vs → CvL h σ X (x :: xs) (v :: vs)
end

/-- from h to h': what is neither in σ nor one's own stays (a frame's table may get other slots); σ' goes on from σ by new objects -/
structure Ext (own σ σ' : List Addr) (h h' : Heap) : Prop where
  keep : ∀ b o, h.get? b = some o → b ∉ σ → b ∉ own → noDict o → h'.get? b = some o
  slot : ∀ b o, h.get? b = some o → b ∉ σ → b ∉ own → ∃ sl, h'.get? b = some { o with slots := sl }
  live : ∀ b o, h.get? b = some o → ∃ o', h'.get? b = some o' ∧ (isDict o → isDict o')
  pre : σ <+: σ'
  new : ∀ a ∈ σ', a ∈ σ ∨ h.get? a = none
  kind : ∀ a o, a ∈ σ → h.get? a = some o → ∃ o', h'.get? a = some o' ∧ (isDict o ↔ isDict o')

theorem Ext.refl (own σ : List Addr) (h : Heap) : Ext own σ σ h h := ⟨fun _ _ e _ _ _ => e, fun _ o e _ _ => ⟨o.slots, e⟩, fun _ o e => ⟨o, e, id⟩, List.prefix_refl _, fun _ m => .inl m, fun _ o _ e => ⟨o, e, Iff.rfl⟩⟩

theorem Ext.trans {own σ σ' σ'' : List Addr} {h h' h'' : Heap} (x : Ext own σ σ' h h') (y : Ext own σ' σ'' h' h'') : Ext own σ σ'' h h'' where
  keep := fun b o e hs ho nd => y.keep b o (x.keep b o e hs ho nd) (fun m => (x.new b m).elim hs fun n => by rw [e] at n; cases n) ho nd
  slot := fun b o e hs ho => let ⟨_, e1⟩ := x.slot b o e hs ho; let ⟨s2, e2⟩ := y.slot b _ e1 (fun m => (x.new b m).elim hs fun n => by rw [e] at n; cases n) ho; ⟨s2, e2⟩
  live := fun b o e => let ⟨o', e', d'⟩ := x.live b o e; let ⟨o2, e2, d2⟩ := y.live b o' e'; ⟨o2, e2, fun d => d2 (d' d)⟩
  pre := x.pre.trans y.pre
  new := fun a m => (y.new a m).elim (fun m => x.new a m) fun n => by
    cases e : h.get? a with
    | none => exact .inr rfl
    | some o => obtain ⟨o', e', _⟩ := x.live a o e; rw [e'] at n; cases n
  kind := fun a o m e => let ⟨o', e', d⟩ := x.kind a o m e; let ⟨o2, e2, d2⟩ := y.kind a o' (x.pre.subset m) e'; ⟨o2, e2, d.trans d2⟩

theorem Ext.own {own own' σ σ' : List Addr} {h h' : Heap} (x : Ext own σ σ' h h') (hs : ∀ a ∈ own, a ∈ own') : Ext own' σ σ' h h' :=
  ⟨fun b o e h1 h2 => x.keep b o e h1 fun m => h2 (hs b m), fun b o e h1 h2 => x.slot b o e h1 fun m => h2 (hs b m), x.live, x.pre, x.new, x.kind⟩

/-- own addresses that are new drop out -/
theorem Ext.drop {own own' σ σ' : List Addr} {h h' : Heap} (x : Ext own σ σ' h h') (hs : ∀ a ∈ own, a ∈ own' ∨ h.get? a = none) : Ext own' σ σ' h h' :=
  ⟨fun b o e h1 h2 => x.keep b o e h1 fun m => (hs b m).elim h2 fun n => (by rw [e] at n; cases n), fun b o e h1 h2 => x.slot b o e h1 fun m => (hs b m).elim h2 fun n => (by rw [e] at n; cases n), x.live, x.pre, x.new, x.kind⟩

theorem Ext.of_keeps {own σ : List Addr} {h h' : Heap} (k : ∀ b o, h.get? b = some o → h'.get? b = some o) : Ext own σ σ h h' :=
  ⟨fun b o e _ _ _ => k b o e, fun b o e _ _ => ⟨o.slots, k b o e⟩, fun b o e => ⟨o, k b o e, id⟩, List.prefix_refl _, fun _ m => .inl m, fun a o _ e => ⟨o, k a o e, Iff.rfl⟩⟩

theorem Ext.one {σ : List Addr} {h h' : Heap} {a : Addr} (sb : Heap.SameBut a h h') (l : ∃ o, h'.get? a = some o) (nd : ∀ o, h.get? a = some o → noDict o) (na : a ∉ σ) : Ext [a] σ σ h h' :=
  have kx : ∀ b o, h.get? b = some o → b ∉ [a] → h'.get? b = some o := fun b o e q => (sb.2 b (fun r => q (List.mem_singleton.mpr r))).trans e
  ⟨fun b o e _ q _ => kx b o e q, fun b o e _ q => ⟨o.slots, kx b o e q⟩, fun b o e => by
    by_cases q : b = a
    · subst q; obtain ⟨o', h1⟩ := l; exact ⟨o', h1, fun d => absurd d (nd o e)⟩
    · exact ⟨o, (sb.2 b q).trans e, id⟩, List.prefix_refl _, fun _ m => .inl m, fun b o mb e => ⟨o, (sb.2 b (fun r => na (r ▸ mb))).trans e, Iff.rfl⟩⟩

theorem getElem?_of_prefix {α : Type} {l l' : List α} (p : l <+: l') {k : Nat} {a : α} (e : l[k]? = some a) : l'[k]? = some a := by
  obtain ⟨t, rfl⟩ := p
  rw [List.getElem?_append_left (List.getElem?_eq_some_iff.mp e).1]; exact e

/-- what is laid down as data: a list, a tuple, a range are no frame, no cell -/
noncomputable def Obj.isData (o : Obj) : Prop := (∃ vs n, o = listO vs n) ∨ (∃ vs n, o = tupO vs n) ∨ (∃ a b c t u v, o = { cls := .type "range", dict := none, data := .fields #[.int a t, .int b u, .int c v], slots := #[] }) ∨ ∃ C, isExc C o

theorem Obj.isData.noDict {o : Obj} (d : Obj.isData o) : noDict o := fun ⟨_, _, q⟩ => by
  rcases d with ⟨vs, n, rfl⟩ | ⟨vs, n, rfl⟩ | ⟨_, _, _, _, _, _, rfl⟩ | ⟨C, _, vs, h⟩
  · cases q
  · cases q
  · cases q
  · rw [h] at q; cases q
theorem Obj.isData.noCell {o : Obj} (d : Obj.isData o) {ov : Option Value} (q : o.data = .cell ov) : False := by
  rcases d with ⟨vs, n, rfl⟩ | ⟨vs, n, rfl⟩ | ⟨_, _, _, _, _, _, rfl⟩ | ⟨C, _, vs, h⟩
  · cases q
  · cases q
  · cases q
  · rw [h] at q; cases q
theorem Obj.isData.clsNo {o : Obj} {T : String} (d : Obj.isData o) (q : o.cls = .type T) (h : T ≠ "list" ∧ T ≠ "tuple" ∧ T ≠ "range") : False := by
  rcases d with ⟨vs, n, rfl⟩ | ⟨vs, n, rfl⟩ | ⟨_, _, _, _, _, _, rfl⟩ | ⟨C, e, _⟩
  · exact h.1 (Value.type.inj q).symm
  · exact h.2.1 (Value.type.inj q).symm
  · exact h.2.2 (Value.type.inj q).symm
  · rw [e] at q; cases q

section
variable {h h' : Heap} {own σ σ' X : List Addr}

noncomputable def NoData (h : Heap) (X own : List Addr) : Prop := ∀ a ∈ own, a ∉ X → ∀ o, h.get? a = some o → ¬ Obj.isData o

theorem NoData.nil : NoData h X [] := fun _ m => nomatch m

variable {X' : List Addr}
theorem CvL.mono (k : ∀ a o, h.get? a = some o → Obj.isData o → a ∉ σ → a ∉ X → h'.get? a = some o ∧ a ∉ σ' ∧ a ∉ X') (p : ∀ (i : Nat) a, σ[i]? = some a → σ'[i]? = some a) (kd : ∀ a o, a ∈ σ → h.get? a = some o → ∃ o', h'.get? a = some o' ∧ (isDict o ↔ isDict o')) {v : List AV} {c : List Value} (q : CvL h σ X v c) : CvL h' σ' X' v c :=
  CvL.rec (motive_1 := fun v c _ => Cv h' σ' X' v c) (motive_2 := fun v c _ => CvL h' σ' X' v c) .none .bool .int .str
    (fun e h1 h2 hl _ r => have q := k _ _ e (.inr (.inl ⟨_, _, rfl⟩)) h1 h2; .tup q.1 q.2.1 q.2.2 hl r)
    (fun e h1 h2 hl _ r => have q := k _ _ e (.inl ⟨_, _, rfl⟩) h1 h2; .list q.1 q.2.1 q.2.2 hl r)
    (fun e h1 h2 s1 s2 => have q := k _ _ e (.inr (.inr (.inl ⟨_, _, _, _, _, _, rfl⟩))) h1 h2; .range q.1 q.2.1 q.2.2 s1 s2)
    (fun e ho nd => have ⟨_, h1, h2⟩ := kd _ _ (List.mem_of_getElem? e) ho; .ref (p _ _ e) h1 (fun d => nd (h2.mpr d))) (fun e ho dd => have ⟨_, h1, h2⟩ := kd _ _ (List.mem_of_getElem? e) ho; .dct (p _ _ e) h1 (h2.mp dd)) (fun e x h1 h2 => have q := k _ _ e (.inr (.inr (.inr ⟨_, x⟩))) h1 h2; .obj q.1 x q.2.1 q.2.2) .nil (fun _ _ a r => .cons a r) q
theorem Cv.mono (k : ∀ a o, h.get? a = some o → Obj.isData o → a ∉ σ → a ∉ X → h'.get? a = some o ∧ a ∉ σ' ∧ a ∉ X') (p : ∀ (i : Nat) a, σ[i]? = some a → σ'[i]? = some a) (kd : ∀ a o, a ∈ σ → h.get? a = some o → ∃ o', h'.get? a = some o' ∧ (isDict o ↔ isDict o')) {v : AV} {c : Value} (q : Cv h σ X v c) : Cv h' σ' X' v c := by
  cases CvL.mono k p kd (.cons q .nil) with | cons a _ => exact a
theorem ext_k (x : Ext own σ σ' h h') (nd : NoData h X own) : ∀ a o, h.get? a = some o → Obj.isData o → a ∉ σ → a ∉ X → h'.get? a = some o ∧ a ∉ σ' ∧ a ∉ X :=
  fun a o e d h1 h2 => ⟨x.keep _ _ e h1 (fun m => nd _ m h2 _ e d) d.noDict, fun m => (x.new _ m).elim h1 fun n => (by rw [e] at n; cases n), h2⟩
theorem Cv.ext (x : Ext own σ σ' h h') (nd : NoData h X own) {v : AV} {c : Value} (q : Cv h σ X v c) : Cv h' σ' X v c := q.mono (ext_k x nd) (fun _ _ e => getElem?_of_prefix x.pre e) x.kind
theorem CvL.ext (x : Ext own σ σ' h h') (nd : NoData h X own) {v : List AV} {c : List Value} (q : CvL h σ X v c) : CvL h' σ' X v c := q.mono (ext_k x nd) (fun _ _ e => getElem?_of_prefix x.pre e) x.kind

theorem Cv.keeps (k : ∀ b o, h.get? b = some o → h'.get? b = some o) {v : AV} {c : Value} (x : Cv h σ X v c) : Cv h' σ X v c := Cv.ext (Ext.of_keeps (own := []) k) NoData.nil x
theorem CvL.keeps (k : ∀ b o, h.get? b = some o → h'.get? b = some o) {v : List AV} {c : List Value} (x : CvL h σ X v c) : CvL h' σ X v c := CvL.ext (Ext.of_keeps (own := []) k) NoData.nil x

/-- an address that holds nothing yet may be set aside -/
theorem aside_k {a : Addr} (n : h.get? a = none) : ∀ b o, h.get? b = some o → Obj.isData o → b ∉ σ → b ∉ X → h.get? b = some o ∧ b ∉ σ ∧ b ∉ a :: X :=
  fun b o e _ h1 h2 => ⟨e, h1, fun m => (List.mem_cons.mp m).elim (fun q => by rw [q, n] at e; cases e) h2⟩
theorem Cv.aside {a : Addr} (n : h.get? a = Option.none) {v : AV} {c : Value} (q : Cv h σ X v c) : Cv h σ (a :: X) v c := q.mono (aside_k n) (fun _ _ e => e) fun _ o _ e => ⟨o, e, Iff.rfl⟩
theorem CvL.aside {a : Addr} (n : h.get? a = none) {v : List AV} {c : List Value} (q : CvL h σ X v c) : CvL h σ (a :: X) v c := q.mono (aside_k n) (fun _ _ e => e) fun _ o _ e => ⟨o, e, Iff.rfl⟩
theorem Cv.less {Y : List Addr} (s : ∀ a ∈ Y, a ∈ X) {v : AV} {c : Value} (q : Cv h σ X v c) : Cv h σ Y v c := q.mono (fun a o e _ h1 h2 => ⟨e, h1, fun m => h2 (s a m)⟩) (fun _ _ e => e) fun _ o _ e => ⟨o, e, Iff.rfl⟩
theorem CvL.less {Y : List Addr} (s : ∀ a ∈ Y, a ∈ X) {v : List AV} {c : List Value} (q : CvL h σ X v c) : CvL h σ Y v c := q.mono (fun a o e _ h1 h2 => ⟨e, h1, fun m => h2 (s a m)⟩) (fun _ _ e => e) fun _ o _ e => ⟨o, e, Iff.rfl⟩
/-- an address that was set aside joins σ -/
theorem join_k {a : Addr} : ∀ b o, h.get? b = some o → Obj.isData o → b ∉ σ → b ∉ a :: X → h.get? b = some o ∧ b ∉ σ ++ [a] ∧ b ∉ X :=
  fun b o e _ h1 h2 => ⟨e, fun m => (List.mem_append.mp m).elim h1 fun m => h2 (List.mem_cons.mpr (.inl (List.mem_singleton.mp m))), fun m => h2 (List.mem_cons_of_mem _ m)⟩
theorem join_p {a : Addr} : ∀ (i : Nat) b, σ[i]? = some b → (σ ++ [a])[i]? = some b := fun _ _ e => by rw [List.getElem?_append_left (List.getElem?_eq_some_iff.mp e).1]; exact e
theorem Cv.join {a : Addr} {v : AV} {c : Value} (q : Cv h σ (a :: X) v c) : Cv h (σ ++ [a]) X v c := q.mono join_k join_p fun _ o _ e => ⟨o, e, Iff.rfl⟩
theorem CvL.join {a : Addr} {v : List AV} {c : List Value} (q : CvL h σ (a :: X) v c) : CvL h (σ ++ [a]) X v c := q.mono join_k join_p fun _ o _ e => ⟨o, e, Iff.rfl⟩
end

section
variable {h : Heap} {σ X : List Addr}
theorem CvL.length {xs : List AV} {vs : List Value} (x : CvL h σ X xs vs) : vs.length = xs.length := by
  induction xs generalizing vs with
  | nil => cases x; rfl
  | cons a r ih => cases x with | cons _ q => simp [ih q]
theorem CvL.append {xs ys : List AV} {vs ws : List Value} (x : CvL h σ X xs vs) (y : CvL h σ X ys ws) : CvL h σ X (xs ++ ys) (vs ++ ws) := by
  induction xs generalizing vs with
  | nil => cases x; exact y
  | cons a r ih => cases x with | cons q r' => exact .cons q (ih r')
theorem CvL.get {xs : List AV} {vs : List Value} (x : CvL h σ X xs vs) {k : Nat} {a : AV} (e : xs[k]? = some a) : ∃ v, vs[k]? = some v ∧ Cv h σ X a v := by
  induction xs generalizing vs k with
  | nil => simp at e
  | cons b r ih =>
    cases x with
    | cons q r' =>
      cases k with
      | zero => simp at e; subst e; exact ⟨_, rfl, q⟩
      | succ k => simpa using ih r' (by simpa using e)
theorem CvL.drop {xs : List AV} {vs : List Value} (x : CvL h σ X xs vs) (k : Nat) : CvL h σ X (xs.drop k) (vs.drop k) := by
  induction k generalizing xs vs with
  | zero => simpa using x
  | succ k ih => cases x with
    | nil => simpa using CvL.nil
    | cons q r => simpa using ih r
theorem CvL.take {xs : List AV} {vs : List Value} (x : CvL h σ X xs vs) (k : Nat) : CvL h σ X (xs.take k) (vs.take k) := by
  induction k generalizing xs vs with
  | zero => simpa using CvL.nil
  | succ k ih => cases x with
    | nil => simpa using CvL.nil
    | cons q r => simpa using CvL.cons q (ih r)
end

/-- plain values lie in no heap -/
inductive Cs : AV → Value → Prop
  | none : Cs .none .none
  | bool (b : Bool) : Cs (.bool b) (.bool b)
  | int (i : Int) (t : Tok) : Cs (.int i) (.int i t)
  | str (s : Str) (t : Tok) : Cs (.str s) (.str s t)
inductive DRel : List AV → List (Int × Value) → Prop
  | nil : DRel [] []
  | cons {k : Int} {v : AV} {c : Value} {es : List AV} {kvs : List (Int × Value)} : Cs v c → DRel es kvs → DRel (ent k v :: es) ((k, c) :: kvs)
theorem keyIs_ent (i k : Int) (v : AV) : keyIs i (ent k v) = decide (k = i) := rfl
theorem DRel.has {es : List AV} {kvs : List (Int × Value)} (r : DRel es kvs) (i : Int) : (kvs.any fun kv => decide (kv.1 = i)) = dKey i es := by
  induction r with
  | nil => rfl
  | cons _ _ ih => simp only [List.any_cons, dKey, keyIs_ent] at ih ⊢; rw [ih]
theorem DRel.at {es : List AV} {kvs : List (Int × Value)} (r : DRel es kvs) (i : Int) : (valueAt kvs i).isSome = dKey i es := by
  rw [← r.has i, valueAt, Option.isSome_map, Bool.eq_iff_iff, List.find?_isSome, List.any_eq_true]
theorem DRel.len {es : List AV} {kvs : List (Int × Value)} (r : DRel es kvs) : kvs.length = es.length := by
  induction r with
  | nil => rfl
  | cons _ _ ih => simp [ih]
theorem DRel.map {es : List AV} {kvs : List (Int × Value)} (r : DRel es kvs) {i : Int} {v : AV} {c : Value} (hc : Cs v c) : DRel (es.map fun e => if keyIs i e then ent i v else e) (kvs.map fun kv => if kv.1 = i then (kv.1, c) else kv) := by
  induction r with
  | nil => exact .nil
  | @cons k v' c' es kvs h1 _ ih =>
    simp only [List.map_cons, keyIs_ent]
    by_cases q : k = i
    · subst q; simp only [decide_true, if_true]; exact .cons hc ih
    · simp only [q, decide_false, if_false, Bool.false_eq_true]; exact .cons h1 ih
theorem DRel.snoc {es : List AV} {kvs : List (Int × Value)} (r : DRel es kvs) {i : Int} {v : AV} {c : Value} (hc : Cs v c) : DRel (es ++ [ent i v]) (kvs ++ [(i, c)]) := by
  induction r with
  | nil => exact .cons hc .nil
  | cons h1 _ ih => exact .cons h1 ih
theorem DRel.store {es : List AV} {kvs : List (Int × Value)} (r : DRel es kvs) {i : Int} {v : AV} {c : Value} (hc : Cs v c) : DRel (dStore es i v) (stored kvs i c) := by
  unfold dStore stored
  rw [r.has i]
  split
  · exact r.map hc
  · exact r.snoc hc
theorem Cs.of {h : Heap} {σ X : List Addr} {v : AV} {c : Value} (x : Cv h σ X v c) (e : scalV v = true) : Cs v c := by
  cases x with
  | none => exact .none
  | bool b => exact .bool b
  | int i t => exact .int i t
  | str s t => exact .str s t
  | _ => cases e
theorem dStore_len (es : List AV) (i : Int) (v : AV) : (dStore es i v).length ≤ es.length + 1 := by
  unfold dStore
  split
  · rw [List.length_map]; exact Nat.le_succ _
  · rw [List.length_append]; exact Nat.le_refl _
noncomputable def DOf (h : Heap) (a : Addr) (kvs : List (Int × Value)) : Prop := (a == sysModules) = false ∧ ∃ (p : Program) (w : World), h.DictOf (intKind p w) a kvs
noncomputable def DctOk (h : Heap) (a : Addr) (es : List AV) : Prop := es.length ≤ sizeMax ∧ ∃ kvs, DOf h a kvs ∧ DRel es kvs
noncomputable def LstOk (h : Heap) (σ X : List Addr) (a : Addr) (xs : List AV) : Prop := xs.length ≤ sizeMax ∧ ∃ vs n, h.get? a = some (listO vs n) ∧ CvL h σ X xs vs
/-- an object of the abstract heap lies at `a` -/
noncomputable def ObjOk (h : Heap) (σ X : List Addr) (a : Addr) (xs : List AV) : Prop := LstOk h σ X a xs ∨ DctOk h a xs

section
variable {h h' : Heap} {own σ σ' X : List Addr} {a : Addr} {o : List AV}
theorem DOf.at {kvs : List (Int × Value)} (x : DOf h a kvs) (s : ∀ ob, h.get? a = some ob → h'.get? a = some ob) : DOf h' a kvs := let ⟨m, p, w, ob, es, ep, ho, r⟩ := x; ⟨m, p, w, ob, es, ep, s ob ho, r⟩
theorem pairs_any {p p' : Program} {w w' : World} {es : List DictEntry} {kvs : List (Int × Value)} (x : Pairs (intKind p w) es kvs) : Pairs (intKind p' w') es kvs := by
  induction x with
  | nil => exact .nil
  | cons h1 h2 _ ih => exact .cons h1 h2 ih
theorem DOf.of {p : Program} {w : World} {kvs : List (Int × Value)} (x : DOf h a kvs) : (a == sysModules) = false ∧ h.DictOf (intKind p w) a kvs :=
  let ⟨m, _, _, ob, es, ep, ho, ex, hd, hk, hp, hn⟩ := x; ⟨m, ob, es, ep, ho, ex, hd, hk, pairs_any hp, hn⟩
theorem DctOk.at (x : DctOk h a o) (s : ∀ ob, h.get? a = some ob → h'.get? a = some ob) : DctOk h' a o := let ⟨l, kvs, d, r⟩ := x; ⟨l, kvs, d.at s, r⟩
theorem DctOk.there (x : DctOk h a o) : ∃ ob, h.get? a = some ob ∧ isDict ob := let ⟨_, _, ⟨_, _, _, ob, es, ep, ho, _, hd, _⟩, _⟩ := x; ⟨ob, ho, es, ep, hd⟩
theorem ObjOk.there (x : ObjOk h σ X a o) : ∃ ob, h.get? a = some ob := x.elim (fun ⟨_, _, _, e, _⟩ => ⟨_, e⟩) fun d => let ⟨ob, e, _⟩ := d.there; ⟨ob, e⟩
theorem ObjOk.ext (x : ObjOk h σ X a o) (s : ∀ ob, h.get? a = some ob → h'.get? a = some ob) (E : Ext own σ σ' h h') (nd : NoData h X own) : ObjOk h' σ' X a o :=
  x.elim (fun ⟨hl, vs, n, e, r⟩ => .inl ⟨hl, vs, n, s _ e, r.ext E nd⟩) fun d => .inr (d.at s)
theorem ObjOk.aside {b : Addr} (x : ObjOk h σ X a o) (n : h.get? b = none) : ObjOk h σ (b :: X) a o := x.elim (fun ⟨hl, vs, m, e, r⟩ => .inl ⟨hl, vs, m, e, r.aside n⟩) .inr
theorem ObjOk.less {Y : List Addr} (x : ObjOk h σ X a o) (s : ∀ b ∈ Y, b ∈ X) : ObjOk h σ Y a o := x.elim (fun ⟨hl, vs, m, e, r⟩ => .inl ⟨hl, vs, m, e, r.less s⟩) .inr
theorem ObjOk.join {b : Addr} (x : ObjOk h σ (b :: X) a o) : ObjOk h (σ ++ [b]) X a o := x.elim (fun ⟨hl, vs, m, e, r⟩ => .inl ⟨hl, vs, m, e, r.join⟩) .inr
end

structure InvH (h₀ : Heap) (H : HP) (σ X : List Addr) (h : Heap) : Prop where
  keep : ∀ b o, h₀.get? b = some o → h.get? b = some o
  low : ∀ a ∈ σ, h₀.get? a = none
  len : σ.length = H.length
  nodup : σ.Nodup
  apart : ∀ a ∈ σ, a ∉ X
  objs : ∀ (k : Nat) (o : List AV), H[k]? = some o → ∃ a, σ[k]? = some a ∧ ObjOk h σ X a o

section
variable {h₀ h h' : Heap} {H : HP} {σ σ' X own : List Addr}
theorem InvH.there (x : InvH h₀ H σ X h) {a : Addr} (m : a ∈ σ) : ∃ o, h.get? a = some o := by
  obtain ⟨k, hk, e'⟩ := List.mem_iff_getElem.mp m
  have hk' : k < H.length := x.len ▸ hk
  obtain ⟨c, hc, ok⟩ := x.objs k (H[k]) (by simp [hk'])
  have : c = a := by rw [List.getElem?_eq_getElem hk, e'] at hc; exact (Option.some.inj hc).symm
  subst this
  exact ok.there
theorem InvH.aside (x : InvH h₀ H σ X h) {a : Addr} (n : h.get? a = none) : InvH h₀ H σ (a :: X) h where
  keep := x.keep
  low := x.low
  len := x.len
  nodup := x.nodup
  apart := fun b m q => (List.mem_cons.mp q).elim (fun e => by obtain ⟨o, ho⟩ := x.there m; rw [e, n] at ho; cases ho) (x.apart b m)
  objs := fun k o e => let ⟨c, hc, ok⟩ := x.objs k o e; ⟨c, hc, ok.aside n⟩
theorem InvH.less {Y : List Addr} (x : InvH h₀ H σ X h) (s : ∀ a ∈ Y, a ∈ X) : InvH h₀ H σ Y h where
  keep := x.keep
  low := x.low
  len := x.len
  nodup := x.nodup
  apart := fun b m q => x.apart b m (s b q)
  objs := fun k o e => let ⟨c, hc, ok⟩ := x.objs k o e; ⟨c, hc, ok.less s⟩
/-- nothing of σ is touched -/
theorem InvH.stay (x : InvH h₀ H σ X h) (E : Ext own σ σ h h') (kx : ∀ b o, h.get? b = some o → b ∉ own → h'.get? b = some o) (s : ∀ a ∈ σ, ∀ o, h.get? a = some o → h'.get? a = some o) (nd : NoData h X own) (ho : ∀ a ∈ own, h₀.get? a = none) : InvH h₀ H σ X h' where
  keep := fun b o e => kx b o (x.keep b o e) fun m => by rw [ho b m] at e; cases e
  low := x.low
  len := x.len
  nodup := x.nodup
  apart := x.apart
  objs := fun i o e => let ⟨c, hc, ok⟩ := x.objs i o e; ⟨c, hc, ok.ext (s c (List.mem_of_getElem? hc)) E nd⟩
theorem InvH.keeps (x : InvH h₀ H σ X h) (k : ∀ b o, h.get? b = some o → h'.get? b = some o) : InvH h₀ H σ X h' :=
  x.stay (Ext.of_keeps (own := []) k) (fun b o e _ => k b o e) (fun _ _ o e => k _ o e) NoData.nil (fun _ m => nomatch m)

/-- a new list, set aside while it was made, joins the abstract heap -/
theorem InvH.joinO {xs : List AV} {a : Addr} (x : InvH h₀ H σ (a :: X) h) (hx : a ∉ X) (hl : h₀.get? a = none) (ok : ObjOk h σ (a :: X) a xs) :
    InvH h₀ (H ++ [xs]) (σ ++ [a]) X h where
  keep := x.keep
  low := fun b m => (List.mem_append.mp m).elim (x.low b) fun m => by rw [List.mem_singleton.mp m]; exact hl
  len := by simp [x.len]
  nodup := List.nodup_append.mpr ⟨x.nodup, by simp, fun b m c q e => by
    rw [List.mem_singleton.mp q] at e; exact x.apart b m (List.mem_cons.mpr (.inl e))⟩
  apart := fun b m q => (List.mem_append.mp m).elim (fun m => x.apart b m (List.mem_cons_of_mem _ q)) fun m => hx (List.mem_singleton.mp m ▸ q)
  objs := fun k o ek => by
    by_cases hk : k < H.length
    · rw [List.getElem?_append_left hk] at ek
      obtain ⟨c, hc, ok'⟩ := x.objs k o ek
      exact ⟨c, by rw [List.getElem?_append_left (x.len ▸ hk)]; exact hc, ok'.join⟩
    · have hk' : k = H.length := by
        rw [List.getElem?_append_right (by lia)] at ek
        have := (List.getElem?_eq_some_iff.mp ek).1
        simp at this; lia
      subst hk'
      simp at ek
      subst ek
      exact ⟨a, by rw [← x.len]; simp, ok.join⟩
theorem InvH.join {xs : List AV} {vs : List Value} {n : Nat} {a : Addr} (x : InvH h₀ H σ (a :: X) h) (e : h.get? a = some (listO vs n)) (hx : a ∉ X) (hl : h₀.get? a = none) (hsz : xs.length ≤ sizeMax) (r : CvL h σ (a :: X) xs vs) :
    InvH h₀ (H ++ [xs]) (σ ++ [a]) X h := x.joinO hx hl (.inl ⟨hsz, vs, n, e, r⟩)
end
end Mine

namespace Mine
open PySem PyProof.Rows

noncomputable def ownA (env : Env) : List Addr := env.locals :: env.cells.map (·.2)

structure EnvOk (h₀ : Heap) (env : Env) (sc : Scope) (ρ : Loc) (σ X : List Addr) (h : Heap) : Prop where
  kind : env.scope.kind = .function
  loc : ∀ x, sc.names.lookup x = some .local → env.kindOf x = some .local
  cel : ∀ x, isCel sc x = true → env.kindOf x = some .cell ∨ env.kindOf x = some .free
  sto : ∀ x, sc.names.lookup x = some .cell → env.kindOf x = some .cell
  glb : ∀ x, sc.names.lookup x = some .globalImplicit → env.kindOf x = some .globalImplicit
  gl : env.globals = mainGlobals
  bl : env.builtins = builtinsNs
  ns : ∃ m, h.Ns env.locals m ∧ ∀ x v, oddName x = false → env.kindOf x = some .local → ρ x = some v → ∃ c, m x = some c ∧ Cv h σ X v c
  cells : ∀ x, (env.kindOf x = some .cell ∨ env.kindOf x = some .free) → ∃ c ov, env.cells.lookup x = some c ∧ h.IsCell c ov ∧ ∀ v, ρ x = some v → ∃ cv, ov = some cv ∧ Cv h σ X v cv
  there : ∀ n c, (n, c) ∈ env.cells → ∃ ov, h.IsCell c ov
  apart : ∀ x y c, env.cells.lookup x = some c → env.cells.lookup y = some c → x = y
  own : ∀ a ∈ ownA env, a ∉ σ ∧ h₀.get? a = none

section
variable {h₀ h h' : Heap} {env : Env} {sc : Scope} {ρ : Loc} {σ σ' X : List Addr}
theorem EnvOk.noData (ok : EnvOk h₀ env sc ρ σ X h) : NoData h X (ownA env) := by
  intro a m _ o e d
  rcases List.mem_cons.mp m with rfl | m
  · obtain ⟨mm, ⟨o', es, ep, ho, hd, _⟩, _⟩ := ok.ns
    rw [e] at ho; cases ho
    exact d.noDict ⟨_, _, hd⟩
  · obtain ⟨⟨n, c⟩, hm, rfl⟩ := List.mem_map.mp m
    obtain ⟨ov, o', ho, hd⟩ := ok.there n c hm
    rw [e] at ho; cases ho
    exact d.noCell hd
theorem EnvOk.ownThere (ok : EnvOk h₀ env sc ρ σ X h) : ∀ a ∈ ownA env, ∃ o, h.get? a = some o := by
  intro a m
  rcases List.mem_cons.mp m with rfl | m
  · obtain ⟨mm, ⟨o', es, ep, ho, hd, _⟩, _⟩ := ok.ns
    exact ⟨_, ho⟩
  · obtain ⟨⟨n, c⟩, hm, rfl⟩ := List.mem_map.mp m
    obtain ⟨ov, o', ho, hd⟩ := ok.there n c hm
    exact ⟨_, ho⟩

theorem EnvOk.extO {own : List Addr} (ok : EnvOk h₀ env sc ρ σ X h) (E : Ext own σ σ' h h') (nd : NoData h X own) (dj : ∀ b ∈ ownA env, b ∉ own) : EnvOk h₀ env sc ρ σ' X h' where
  kind := ok.kind
  loc := ok.loc
  cel := ok.cel
  sto := ok.sto
  glb := ok.glb
  gl := ok.gl
  bl := ok.bl
  ns := by
    obtain ⟨m, n, f⟩ := ok.ns
    obtain ⟨o, es, ep, ho, hd, rest⟩ := n
    obtain ⟨sl, hs⟩ := E.slot _ _ ho (ok.own _ (List.mem_cons_self)).1 (dj _ List.mem_cons_self)
    refine ⟨m, ⟨_, es, ep, hs, hd, rest⟩, fun x v od k r => ?_⟩
    obtain ⟨c, hc, cv⟩ := f x v od k r
    exact ⟨c, hc, cv.ext E nd⟩
  cells := fun x k => by
    obtain ⟨c, ov, hl, ⟨o, ho, hd⟩, f⟩ := ok.cells x k
    obtain ⟨sl, hs⟩ := E.slot _ _ ho (ok.own c (List.mem_cons_of_mem _ (List.mem_map.mpr ⟨_, mem_of_lookup hl, rfl⟩))).1 (dj _ (List.mem_cons_of_mem _ (List.mem_map.mpr ⟨_, mem_of_lookup hl, rfl⟩)))
    refine ⟨c, ov, hl, ⟨_, hs, hd⟩, fun v r => ?_⟩
    obtain ⟨cv, e, c'⟩ := f v r
    exact ⟨cv, e, c'.ext E nd⟩
  there := fun n c m => by
    obtain ⟨ov, o, ho, hd⟩ := ok.there n c m
    obtain ⟨sl, hs⟩ := E.slot _ _ ho (ok.own c (List.mem_cons_of_mem _ (List.mem_map.mpr ⟨_, m, rfl⟩))).1 (dj _ (List.mem_cons_of_mem _ (List.mem_map.mpr ⟨_, m, rfl⟩)))
    exact ⟨ov, _, hs, hd⟩
  apart := ok.apart
  own := fun a m => ⟨fun q => (E.new a q).elim (ok.own a m).1 fun n => (by obtain ⟨o, e⟩ := ok.ownThere a m; rw [e] at n; cases n), (ok.own a m).2⟩

theorem EnvOk.ext (ok : EnvOk h₀ env sc ρ σ X h) (E : Ext [] σ σ' h h') : EnvOk h₀ env sc ρ σ' X h' := ok.extO E NoData.nil fun _ _ q => nomatch q
theorem EnvOk.fewer {ρ' : Loc} (ok : EnvOk h₀ env sc ρ σ X h) (s : ∀ x v, ρ' x = some v → ρ x = some v) : EnvOk h₀ env sc ρ' σ X h :=
  { ok with
    ns := let ⟨m, q, f⟩ := ok.ns; ⟨m, q, fun x v od k r => f x v od k (s x v r)⟩
    cells := fun x k => let ⟨c, ov, hl, hi, f⟩ := ok.cells x k; ⟨c, ov, hl, hi, fun v r => f v (s x v r)⟩ }

theorem EnvOk.aside (ok : EnvOk h₀ env sc ρ σ X h) {a : Addr} (n : h.get? a = none) : EnvOk h₀ env sc ρ σ (a :: X) h :=
  { ok with
    ns := let ⟨m, q, f⟩ := ok.ns; ⟨m, q, fun x v od k r => let ⟨c, hc, cv⟩ := f x v od k r; ⟨c, hc, cv.aside n⟩⟩
    cells := fun x k => let ⟨c, ov, hl, hi, f⟩ := ok.cells x k; ⟨c, ov, hl, hi, fun v r => let ⟨cv, e, c'⟩ := f v r; ⟨cv, e, c'.aside n⟩⟩ }
theorem EnvOk.less {Y : List Addr} (ok : EnvOk h₀ env sc ρ σ X h) (s : ∀ a ∈ Y, a ∈ X) : EnvOk h₀ env sc ρ σ Y h :=
  { ok with
    ns := let ⟨m, q, f⟩ := ok.ns; ⟨m, q, fun x v od k r => let ⟨c, hc, cv⟩ := f x v od k r; ⟨c, hc, cv.less s⟩⟩
    cells := fun x k => let ⟨c, ov, hl, hi, f⟩ := ok.cells x k; ⟨c, ov, hl, hi, fun v r => let ⟨cv, e, c'⟩ := f v r; ⟨cv, e, c'.less s⟩⟩ }
end

section
variable {prog : Program} {w : World} {A : Around} {E : Value → Shared → Prop} {s : Shared} {h₀ : Heap} {env : Env} {sc : Scope} {ρ : Loc} {σ X : List Addr} {H : HP}

theorem load_sound {x : Str} {v : AV} {Q : Value → Shared → Prop} (ok : EnvOk h₀ env sc ρ σ X s.heap) (hx : isLoc sc x = true) (hv : ρ x = some v) (hQ : ∀ cv, Cv s.heap σ X v cv → Q cv s) :
    wpAny (model prog w) A (loadName env x) Q E s := by
  have hod : oddName x = false := by
    unfold isLoc at hx
    split at hx <;> simp_all
  have hn : (x == ("__classdict__" : Str)) = false := by
    have := hod
    unfold oddName at this
    exact (Bool.or_eq_false_iff.mp (Bool.or_eq_false_iff.mp this).2).1
  have hc : env.kindOf x = some .local ∨ env.kindOf x = some .cell ∨ env.kindOf x = some .free := by
    unfold isLoc at hx
    split at hx
    · rename_i e; exact .inl (ok.loc x e)
    · rename_i e; exact .inr (ok.cel x (by unfold isCel; rw [e]))
    · rename_i e; exact .inr (ok.cel x (by unfold isCel; rw [e]))
    · cases hx
  rcases hc with k | k | k
  · obtain ⟨m, n, f⟩ := ok.ns
    obtain ⟨c, e, cv⟩ := f x v hod k hv
    exact wpAny_loadName_local ok.kind k n e (hQ c cv)
  · obtain ⟨c, ov, hl, hi, f⟩ := ok.cells x (.inl k)
    obtain ⟨cv, rfl, c'⟩ := f v hv
    exact wpAny_loadName_cell ok.kind k hl hi (hQ cv c')
  · obtain ⟨c, ov, hl, hi, f⟩ := ok.cells x (.inr k)
    obtain ⟨cv, rfl, c'⟩ := f v hv
    exact wpAny_loadName_free ok.kind k hl hi (hQ cv c') hn

theorem name_sound {x : Str} {v : AV} {pos : Pos} {Q : Value → Shared → Prop} (ok : EnvOk h₀ env sc ρ σ X s.heap) (hx : isLoc sc x = true) (hv : ρ x = some v) (hQ : ∀ cv, Cv s.heap σ X v cv → Q cv s) :
    wpAny (model prog w) A (eval (.Name x pos) env) Q E s := by
  refine wpAny_Name (load_sound ok hx hv hQ) ?_
  unfold isLoc oddName at hx
  split at hx <;> simp_all

theorem store_sound {x : Str} {v : AV} {cv : Value} {Q : Unit → Shared → Prop} (ok : EnvOk h₀ env sc ρ σ X s.heap) (I : InvH h₀ H σ X s.heap) (hx : isSto sc x = true) (c : Cv s.heap σ X v cv)
    (hQ : ∀ a h' tk, a ∈ ownA env → (sc.names.lookup x = some .local → a = env.locals) → Ext [a] σ σ s.heap h' → EnvOk h₀ env sc (upd ρ x v) σ X h' → InvH h₀ H σ X h' → Q () { s with heap := h', toks := tk }) :
    wpAny (model prog w) A (storeName env x cv) Q E s := by
  have nd := ok.noData
  have fin : ∀ a h', a ∈ ownA env → Heap.SameBut a s.heap h' → (∃ o, h'.get? a = some o ∧ ∀ o', s.heap.get? a = some o' → isDict o' → isDict o) → Ext [a] σ σ s.heap h' ∧ NoData s.heap X [a] ∧ InvH h₀ H σ X h' := by
    intro a h' m hs ha
    have nd1 : NoData s.heap X [a] := fun b hb hx o e => nd b (List.mem_singleton.mp hb ▸ m) hx o e
    have kx : ∀ b o, s.heap.get? b = some o → b ∉ [a] → h'.get? b = some o := fun b o e q => (hs.2 b (fun r => q (List.mem_singleton.mpr r))).trans e
    have E : Ext [a] σ σ s.heap h' := ⟨fun b o e _ q _ => kx b o e q, fun b o e _ q => ⟨o.slots, kx b o e q⟩, fun b o e => by
      by_cases hb : b = a
      · subst hb; obtain ⟨o', h1, h2⟩ := ha; exact ⟨o', h1, h2 o e⟩
      · exact ⟨o, (hs.2 b hb).trans e, id⟩, List.prefix_refl _, fun _ m => .inl m, fun b o mb e => ⟨o, (hs.2 b (fun r => (ok.own a m).1 (r ▸ mb))).trans e, Iff.rfl⟩⟩
    exact ⟨E, nd1, I.stay E kx (fun b hb o e => (hs.2 b (fun r => (ok.own a m).1 (r ▸ hb))).trans e) nd1 fun b hb => List.mem_singleton.mp hb ▸ (ok.own a m).2⟩
  have hk : env.kindOf x = some .local ∨ env.kindOf x = some .cell := by
    unfold isSto at hx
    split at hx
    · rename_i e; exact .inl (ok.loc x e)
    · rename_i e; exact .inr (ok.sto x e)
    · cases hx
  rcases hk with k | k
  · obtain ⟨m, n, f⟩ := ok.ns
    refine wpAny_storeName_local k n (fun h' n' hs => ?_) (by rw [ok.kind]; rfl)
    obtain ⟨E, nd, I'⟩ := fin env.locals h' List.mem_cons_self hs (let ⟨o, es, ep, ho, hd, _⟩ := n'; ⟨o, ho, fun _ _ _ => ⟨es, ep, hd⟩⟩)
    refine hQ env.locals h' _ List.mem_cons_self (fun _ => rfl) E { ok with
      ns := ⟨_, n', fun y u od ky r => ?_⟩
      cells := fun y ky => ?_
      there := fun a b hb => ?_ } I'
    · by_cases hy : y = x
      · subst hy
        simp only [upd, if_true] at r
        cases r
        exact ⟨cv, by simp, c.ext E nd⟩
      · simp only [upd, hy, if_false] at r ⊢
        obtain ⟨c', hc', q⟩ := f y u od ky r
        exact ⟨c', hc', q.ext E nd⟩
    · obtain ⟨a, ov, hl, hi, g⟩ := ok.cells y ky
      refine ⟨a, ov, hl, hi.sameBut hs ?_, fun u r => ?_⟩
      · rintro rfl
        obtain ⟨o, ho, hd⟩ := hi
        obtain ⟨o', es, ep, ho', hd', _⟩ := n
        rw [ho] at ho'; cases ho'; rw [hd] at hd'; cases hd'
      · have hyx : y ≠ x := by rintro rfl; rw [k] at ky; rcases ky with q | q <;> cases q
        simp only [upd, hyx, if_false] at r
        obtain ⟨c', e, q⟩ := g u r
        exact ⟨c', e, q.ext E nd⟩
    · obtain ⟨ov, hi⟩ := ok.there a b hb
      refine ⟨ov, hi.sameBut hs ?_⟩
      rintro rfl
      obtain ⟨o, ho, hd⟩ := hi
      obtain ⟨o', es, ep, ho', hd', _⟩ := n
      rw [ho] at ho'; cases ho'; rw [hd] at hd'; cases hd'
  · obtain ⟨a, ov, hl, hi, g⟩ := ok.cells x (.inl k)
    have ma : a ∈ ownA env := List.mem_cons_of_mem _ (List.mem_map.mpr ⟨_, mem_of_lookup hl, rfl⟩)
    refine wpAny_storeName_cell ok.kind k hl hi fun h' hi' hs => ?_
    obtain ⟨E, nd, I'⟩ := fin a h' ma hs (by
      obtain ⟨o, ho, _⟩ := hi'
      refine ⟨o, ho, fun o' ho' ⟨es, n, hd'⟩ => ?_⟩
      obtain ⟨o2, ho2, hd2⟩ := hi
      rw [ho2] at ho'; cases ho'; rw [hd2] at hd'; cases hd')
    obtain ⟨m, n, f⟩ := ok.ns
    have hla : env.locals ≠ a := by
      intro r
      obtain ⟨o, ho, hd⟩ := hi
      obtain ⟨o', es, ep, ho', hd', _⟩ := n
      rw [← r, ho'] at ho; cases ho; rw [hd] at hd'; cases hd'
    refine hQ a h' _ ma (fun q => by rw [ok.loc x q] at k; cases k) E { ok with
      ns := ⟨m, n.sameBut hs hla, fun y u od ky r => ?_⟩
      cells := fun y ky => ?_
      there := fun b c' hb => ?_ } I'
    · have hyx : y ≠ x := by rintro rfl; rw [k] at ky; cases ky
      simp only [upd, hyx, if_false] at r
      obtain ⟨c', hc', q⟩ := f y u od ky r
      exact ⟨c', hc', q.ext E nd⟩
    · by_cases hy : y = x
      · subst hy
        refine ⟨a, some cv, hl, hi', fun u r => ?_⟩
        simp only [upd, if_true] at r
        cases r
        exact ⟨cv, rfl, c.ext E nd⟩
      · obtain ⟨b, ow, hl', hi2, g2⟩ := ok.cells y ky
        refine ⟨b, ow, hl', hi2.sameBut hs ?_, fun u r => ?_⟩
        · rintro rfl
          exact hy (ok.apart _ _ _ hl' hl)
        · simp only [upd, hy, if_false] at r
          obtain ⟨c', e, q⟩ := g2 u r
          exact ⟨c', e, q.ext E nd⟩
    · by_cases hba : c' = a
      · subst hba; exact ⟨_, hi'⟩
      · obtain ⟨ow, hi2⟩ := ok.there b c' hb
        exact ⟨ow, hi2.sameBut hs hba⟩
end
end Mine

namespace Mine
open PySem PyProof.Rows

/-- what a plain step hands on: all that stood stays; a list is a new one -/
noncomputable def KP (σ X : List Addr) (s : Shared) (v : AV) (Q : Value → Shared → Prop) : Prop :=
  ∀ cv h' tk, (∀ b o, s.heap.get? b = some o → h'.get? b = some o) → Cv h' σ X v cv → (∀ xs a, v = .list xs → cv = .ref a → s.heap.get? a = none) → Q cv { s with heap := h', toks := tk }

theorem sizeLine_ge : sizeMax ≤ sizeLine := by unfold sizeMax; rw [sizeLine_eq]; lia

section
variable {h₀ h : Heap} {H : HP} {σ X : List Addr}
theorem InvH.none_at (I : InvH h₀ H σ X h) {a : Addr} (n : h.get? a = none) : a ∉ σ := fun m => by obtain ⟨o, e⟩ := I.there m; rw [n] at e; cases e

/-- a list, frozen or not: where it lies and what its items are -/
theorem objs_at (I : InvH h₀ H σ X h) {k : Nat} {a : Addr} {o : Obj} {xs : List AV} (hk : σ[k]? = some a) (ho : h.get? a = some o) (nd : noDict o) (e : H[k]? = some xs) : ∃ vs n, h.get? a = some (listO vs n) ∧ xs.length ≤ sizeMax ∧ CvL h σ X xs vs := by
  obtain ⟨b, hb, ok⟩ := I.objs k _ e
  rw [hk] at hb; cases hb
  rcases ok with ⟨hl, vs, n, hg, r⟩ | d
  · exact ⟨vs, n, hg, hl, r⟩
  · obtain ⟨ob, h1, h2⟩ := d.there
    rw [ho] at h1; cases h1
    exact absurd h2 nd
theorem dct_at (I : InvH h₀ H σ X h) {k : Nat} {a : Addr} {o : Obj} {es : List AV} (hk : σ[k]? = some a) (ho : h.get? a = some o) (dd : isDict o) (e : H[k]? = some es) : DctOk h a es := by
  obtain ⟨b, hb, ok⟩ := I.objs k _ e
  rw [hk] at hb; cases hb
  rcases ok with ⟨hl, vs, n, hg, r⟩ | d
  · rw [ho] at hg; cases hg; exact absurd dd noDict_list
  · exact d
theorem seqOf_at (I : InvH h₀ H σ X h) {v : AV} {c : Value} {xs : List AV} (cv : Cv h σ X v c) (e : seqOf H v = some xs) : ∃ a vs n, c = .ref a ∧ h.get? a = some (listO vs n) ∧ xs.length ≤ sizeMax ∧ CvL h σ X xs vs := by
  cases cv with
  | list hg _ _ hl r => cases e; exact ⟨_, _, _, rfl, hg, hl, r⟩
  | ref hk ho nd => let ⟨vs, n, q⟩ := objs_at I hk ho nd e; exact ⟨_, vs, n, rfl, q⟩
  | _ => cases e

theorem toPys_length : ∀ xs : List AV, (toPys xs).length = xs.length
  | [] => rfl
  | _ :: xs => by simp [toPys, toPys_length xs]

/-- plain data is read as the kit's data -/
noncomputable def RdV (h : Heap) (n : Nat) (v : AV) (c : Value) : Prop := (∃ as, Reads h c (toPy v) as) ∧ (toPy v).canLay0 = true ∧ (toPy v).depth ≤ n
noncomputable def RdL (h : Heap) (n : Nat) (vs : List AV) (cs : List Value) : Prop := (∃ as, ReadsAll h cs (toPys vs) as) ∧ PyData.canLayAll0 (toPys vs) = true ∧ PyData.depthAll (toPys vs) ≤ n
theorem reads_all {h : Heap} {σ X : List Addr} {n : Nat} (one : ∀ {v : AV} {c : Value}, Cv h σ X v c → okD n v = true → RdV h n v c) {vs : List AV} {cs : List Value} (q : CvL h σ X vs cs) (ok : vs.all (okD n) = true) : RdL h n vs cs := by
  induction vs generalizing cs with
  | nil => cases q; exact ⟨⟨_, .nil⟩, rfl, Nat.zero_le _⟩
  | cons x xs ih =>
    cases q with
    | cons a r =>
      have ok := Bool.and_eq_true_iff.mp ok
      obtain ⟨⟨as, h1⟩, h2, h3⟩ := one a ok.1
      obtain ⟨⟨bs, k1⟩, k2, k3⟩ := ih r ok.2
      refine ⟨⟨_, .cons h1 k1⟩, ?_, Nat.max_le.mpr ⟨h3, k3⟩⟩
      show (_ && _) = true
      rw [h2, k2]; rfl
theorem reads_leaf {h : Heap} {σ X : List Addr} {n : Nat} {v : AV} {c : Value} (cv : Cv h σ X v c) (ok : okL v = true) : RdV h n v c := by
  cases cv with
  | none => exact ⟨⟨_, .none⟩, rfl, Nat.zero_le _⟩
  | bool b => exact ⟨⟨_, .bool b⟩, rfl, Nat.zero_le _⟩
  | int i t => exact ⟨⟨_, .int i t⟩, rfl, Nat.zero_le _⟩
  | str s t => exact ⟨⟨_, .str s t⟩, ok, Nat.zero_le _⟩
  | _ => exact Bool.noConfusion ok
theorem reads_one {h : Heap} {σ X : List Addr} {n : Nat} (all : ∀ {vs : List AV} {cs : List Value}, CvL h σ X vs cs → vs.all (okD n) = true → RdL h n vs cs) {v : AV} {c : Value} (cv : Cv h σ X v c) (ok : okD (n + 1) v = true) : RdV h (n + 1) v c := by
  cases cv with
  | tup hg _ _ _ r =>
    obtain ⟨⟨as, k1⟩, k2, k3⟩ := all r ok
    exact ⟨⟨_, reads_tuple_at hg rfl rfl k1⟩, k2, Nat.succ_le_succ k3⟩
  | list hg _ _ _ r =>
    obtain ⟨⟨as, k1⟩, k2, k3⟩ := all r ok
    exact ⟨⟨_, reads_list_at hg rfl rfl k1⟩, k2, Nat.succ_le_succ k3⟩
  | none => exact reads_leaf (σ := σ) (X := X) .none ok
  | bool b => exact reads_leaf (σ := σ) (X := X) (.bool b) ok
  | int i t => exact reads_leaf (σ := σ) (X := X) (.int i t) ok
  | str s t => exact reads_leaf (σ := σ) (X := X) (.str s t) ok
  | _ => exact Bool.noConfusion ok
theorem reads_of {h : Heap} {σ X : List Addr} : ∀ (n : Nat), (∀ {v : AV} {c : Value}, Cv h σ X v c → okD n v = true → RdV h n v c) ∧ (∀ {vs : List AV} {cs : List Value}, CvL h σ X vs cs → vs.all (okD n) = true → RdL h n vs cs)
  | 0 => ⟨reads_leaf, reads_all reads_leaf⟩
  | n + 1 => ⟨reads_one (reads_of n).2, reads_all (reads_one (reads_of n).2)⟩

theorem rsvs_length {g : Nat → Option AV} : ∀ {xs ys : List AV}, rsvs g xs = some ys → ys.length = xs.length
  | [], ys, e => by cases e; rfl
  | x :: xs, ys, e => by
    simp only [rsvs] at e
    split at e
    · obtain ⟨zs, h, rfl⟩ := Option.map_eq_some_iff.mp e
      rw [List.length_cons, List.length_cons, rsvs_length h]
    · cases e

theorem CvL.fz {g : Nat → Option AV} (hg : ∀ {k : Nat} {v' : AV} {a : Addr} {o : Obj}, σ[k]? = some a → h.get? a = some o → noDict o → g k = some v' → Cv h [] X v' (.ref a)) {vs vs' : List AV} {cs : List Value} (q : CvL h σ X vs cs) (e : rsvs g vs = some vs') : CvL h [] X vs' cs :=
  CvL.rec (motive_1 := fun v c _ => ∀ v', rsv g v = some v' → Cv h [] X v' c) (motive_2 := fun v c _ => ∀ v', rsvs g v = some v' → CvL h [] X v' c)
    (fun _ e => by cases e; exact .none) (fun b _ e => by cases e; exact .bool b) (fun i t _ e => by cases e; exact .int i t) (fun s t _ e => by cases e; exact .str s t)
    (fun q _ h2 hl _ ih _ e => by
      obtain ⟨ys, he, rfl⟩ := Option.map_eq_some_iff.mp e
      exact .tup q List.not_mem_nil h2 (by rw [rsvs_length he]; exact hl) (ih _ he))
    (fun q _ h2 hl _ ih _ e => by
      obtain ⟨ys, he, rfl⟩ := Option.map_eq_some_iff.mp e
      exact .list q List.not_mem_nil h2 (by rw [rsvs_length he]; exact hl) (ih _ he))
    (fun hr _ h2 s1 s2 _ e => by cases e; exact .range hr List.not_mem_nil h2 s1 s2) (fun hk ho nd _ e => hg hk ho nd e) (fun _ _ _ _ e => by cases e) (fun q x _ h2 _ e => by cases e; exact .obj q x List.not_mem_nil h2)
    (fun _ e => by cases e; exact .nil)
    (fun {x _ _ _} _ _ ia ir _ e => by
      simp only [rsvs] at e
      cases h1 : rsv g x with
      | none => rw [h1] at e; cases e
      | some y =>
        rw [h1] at e
        obtain ⟨ys, h2, rfl⟩ := Option.map_eq_some_iff.mp e
        exact .cons (ia _ h1) (ir _ h2)) q vs' e
theorem Cv.fz {g : Nat → Option AV} (hg : ∀ {k : Nat} {v' : AV} {a : Addr} {o : Obj}, σ[k]? = some a → h.get? a = some o → noDict o → g k = some v' → Cv h [] X v' (.ref a)) {v v' : AV} {c : Value} (q : Cv h σ X v c) (e : rsv g v = some v') : Cv h [] X v' c := by
  cases CvL.fz (vs' := [v']) hg (.cons q .nil) (by simp only [rsvs, e]; rfl) with | cons a _ => exact a
theorem hop_at (I : InvH h₀ H σ X h) : ∀ (n : Nat) {k : Nat} {v' : AV} {a : Addr} {o : Obj}, σ[k]? = some a → h.get? a = some o → noDict o → hop H n k = some v' → Cv h [] X v' (.ref a)
  | 0, _, _, _, _, _, _, _, e => by cases e
  | n + 1, k, v', a, o, hk, ho, nd, e => by
    simp only [hop] at e
    split at e
    · rename_i xs he
      obtain ⟨ys, hy, rfl⟩ := Option.map_eq_some_iff.mp e
      obtain ⟨vs, m, hg, hl, r⟩ := objs_at I hk ho nd he
      exact .list hg List.not_mem_nil (I.apart _ (List.mem_of_getElem? hk)) (by rw [rsvs_length hy]; exact hl) (r.fz (hop_at I n) hy)
    · cases e
theorem fz_at (I : InvH h₀ H σ X h) {v v' : AV} {c : Value} (cv : Cv h σ X v c) (e : fz H v = some v') : Cv h [] X v' c := cv.fz (hop_at I 4) e
end

section
variable {prog : Program} {w : World} {A : Around} {E : Value → Shared → Prop} {s : Shared} {h₀ : Heap} {H : HP} {σ X : List Addr}

theorem get_size_none (h : Heap) : h.get? h.objs.size = none := by
  cases e : h.get? h.objs.size with
  | none => rfl
  | some o => exact absurd (Heap.lt_size e) (Nat.lt_irrefl _)

/-- a new list -/
theorem KP.newList {xs : List AV} {vs : List Value} {n : Nat} {tk : Nat} {Q : Value → Shared → Prop} (I : InvH h₀ H σ X s.heap) (hX : ∀ a ∈ X, ∃ o, s.heap.get? a = some o) (hsz : xs.length ≤ sizeMax) (r : CvL s.heap σ X xs vs) (hQ : KP σ X s (.list xs) Q) :
    Q (.ref s.heap.objs.size) { s with heap := s.heap.push (listO vs n), toks := tk } := by
  refine hQ _ _ tk (fun b o e => Heap.get?_push_of_some _ e) (.list (Heap.get?_push_size _ rfl) (I.none_at (get_size_none _)) ?_ hsz (r.keeps fun b o e => Heap.get?_push_of_some _ e)) fun _ a _ e => ?_
  · intro m; obtain ⟨o, e⟩ := hX _ m; rw [get_size_none] at e; cases e
  · cases e; exact get_size_none _
theorem KP.newTup {xs : List AV} {vs : List Value} {n : Nat} {tk : Nat} {Q : Value → Shared → Prop} (I : InvH h₀ H σ X s.heap) (hX : ∀ a ∈ X, ∃ o, s.heap.get? a = some o) (hsz : xs.length ≤ sizeMax) (r : CvL s.heap σ X xs vs) (hQ : KP σ X s (.tup xs) Q) :
    Q (.ref s.heap.objs.size) { s with heap := s.heap.push (tupO vs n), toks := tk } := by
  refine hQ _ _ tk (fun b o e => Heap.get?_push_of_some _ e) (.tup (Heap.get?_push_size _ rfl) (I.none_at (get_size_none _)) ?_ hsz (r.keeps fun b o e => Heap.get?_push_of_some _ e)) fun _ a e => (nomatch e)
  · intro m; obtain ⟨o, e⟩ := hX _ m; rw [get_size_none] at e; cases e
/-- nothing is made -/
theorem KP.here {v : AV} {cv : Value} {Q : Value → Shared → Prop} (tk : Nat) (c : Cv s.heap σ X v cv) (hv : ∀ xs, v ≠ .list xs) (hQ : KP σ X s v Q) : Q cv { s with toks := tk } :=
  hQ cv s.heap tk (fun _ _ e => e) c fun xs _ e => absurd e (hv xs)

theorem small_bounds {i : Int} (h : small i = true) : -(2 ^ 62) < i ∧ i < 2 ^ 62 := by
  unfold small intMax at h
  have := of_decide_eq_true h
  lia

theorem foldl_app (l : List (Array Value)) : ∀ acc : Array Value, (List.foldl (fun x1 x2 => x1 ++ x2) acc l).toList = acc.toList ++ (l.map (·.toList)).flatten := by
  induction l with
  | nil => intro acc; simp
  | cons x l ih => intro acc; rw [List.foldl_cons, ih]; simp [List.append_assoc]
theorem repV (vs : List Value) (n : Nat) : List.foldl (fun x1 x2 => x1 ++ x2) (#[] : Array Value) (List.replicate (if vs.toArray.isEmpty = true then 0 else n) vs.toArray) = ((List.replicate n vs).flatten).toArray := by
  apply Array.toList_inj.mp
  rw [foldl_app]
  by_cases hv : vs = []
  · subst hv; simp
  · simp [hv]
theorem CvL.rep {h : Heap} {xs : List AV} {vs : List Value} (r : CvL h σ X xs vs) : ∀ n : Nat, CvL h σ X (repL xs n) (List.replicate n vs).flatten
  | 0 => by simpa [repL] using CvL.nil
  | n + 1 => by rw [List.replicate_succ, List.flatten_cons, repL]; exact r.append (CvL.rep r n)

theorem repL_length (xs : List AV) : ∀ n : Nat, (repL xs n).length = xs.length * n
  | 0 => by simp [repL]
  | n + 1 => by simp [repL, repL_length xs n, Nat.mul_succ]; lia

theorem ints2_some {α : Type} {a b : AV} {f : Int → Int → Option α} {v : α} (e : ints2 a b f = some v) : ∃ x y, a = .int x ∧ b = .int y ∧ f x y = some v := by
  cases a with
  | int x =>
    cases b with
    | int y => exact ⟨_, _, rfl, rfl, e⟩
    | _ => cases e
  | _ => cases e
section
variable {a b v : AV} {ca cb : Value} {Q : Value → Shared → Prop}
theorem addT_sound {x y : List AV} (hop : catT x y = some v) (I : InvH h₀ H σ X s.heap) (hX : ∀ a ∈ X, ∃ o, s.heap.get? a = some o) (Ca : Cv s.heap σ X (.tup x) ca) (Cb : Cv s.heap σ X (.tup y) cb) (hQ : KP σ X s v Q) :
    wpAny (model prog w) A (binaryOp .Add ca cb) Q E s := by
  unfold catT at hop
  split at hop
  case isFalse => cases hop
  rename_i hl; cases hop
  cases Ca with
  | tup g1 h1 h2 l1 r1 =>
    cases Cb with
    | tup g2 h3 h4 l2 r2 =>
      rename_i p vs n q ws m
      have hsz := sizeLine_ge
      by_cases hv : vs = []
      · subst hv
        refine concat_meets ⟨_, g1, rfl⟩ ⟨_, g2, rfl⟩ noFill_tuple_add seq_tuple_add PySem.F.slot_tuple_add PySem.F.entry_tuple_add (PySem.F.args_tuple_add_2 _ _)
          (tuple_addW0 p q #[] ws.toArray n m none none #[] #[] rfl) ⟨g1, g2, ?_⟩
        cases r1
        exact KP.here s.toks (.tup g2 h3 h4 l2 r2) (fun _ e => nomatch e) hQ
      · by_cases hw : ws = []
        · subst hw
          refine concat_meets ⟨_, g1, rfl⟩ ⟨_, g2, rfl⟩ noFill_tuple_add seq_tuple_add PySem.F.slot_tuple_add PySem.F.entry_tuple_add (PySem.F.args_tuple_add_2 _ _)
            (tuple_addW1 p q vs.toArray #[] n m none none #[] #[] (by simpa using hv) rfl) ⟨g1, g2, ?_⟩
          cases r2
          rw [List.append_nil] at hQ
          exact KP.here s.toks (.tup g1 h1 h2 l1 r1) (fun _ e => nomatch e) hQ
        · refine concat_meets ⟨_, g1, rfl⟩ ⟨_, g2, rfl⟩ noFill_tuple_add seq_tuple_add PySem.F.slot_tuple_add PySem.F.entry_tuple_add (PySem.F.args_tuple_add_2 _ _)
            (tuple_addW2 p q vs.toArray ws.toArray n m none none #[] #[] (by simpa using hv) (by simpa using hw) (by simp [r1.length, r2.length]; lia)) ⟨g1, g2, ?_⟩
          have := KP.newTup (n := 0) (tk := s.toks) I hX (by rw [List.length_append]; exact hl) (r1.append r2) hQ
          simpa [tupO] using this
theorem addL_sound {x y : List AV} (e1 : seqOf H a = some x) (e2 : seqOf H b = some y) (hop : catL x y = some v) (I : InvH h₀ H σ X s.heap) (hX : ∀ a ∈ X, ∃ o, s.heap.get? a = some o) (Ca : Cv s.heap σ X a ca) (Cb : Cv s.heap σ X b cb) (hQ : KP σ X s v Q) :
    wpAny (model prog w) A (binaryOp .Add ca cb) Q E s := by
  unfold catL at hop
  split at hop
  case isFalse => cases hop
  rename_i hl; cases hop
  obtain ⟨p, vs, n, rfl, g1, _, r1⟩ := seqOf_at I Ca e1
  obtain ⟨q, ws, m, rfl, g2, _, r2⟩ := seqOf_at I Cb e2
  have hsz := sizeLine_ge
  refine P.add_list (items := vs.toArray) (items2 := ws.toArray) g1 g2 ?_ (by simp [r1.length, r2.length]; lia)
  have := KP.newList (n := 0) (tk := s.toks) I hX (by rw [List.length_append]; exact hl) (r1.append r2) hQ
  simpa [listO] using this
theorem mulL_sound {x : List AV} {y : Int} (e : seqOf H a = some x) (hop : repV' x y = some v) (I : InvH h₀ H σ X s.heap) (hX : ∀ a ∈ X, ∃ o, s.heap.get? a = some o) (Ca : Cv s.heap σ X a ca) (Cb : Cv s.heap σ X (.int y) cb) (hQ : KP σ X s v Q) :
    wpAny (model prog w) A (binaryOp .Mult ca cb) Q E s := by
  unfold repV' at hop
  split at hop
  case isFalse => cases hop
  rename_i hs
  cases hop
  cases Cb with
  | int _ u =>
    obtain ⟨hs1, hs2⟩ := Bool.and_eq_true_iff.mp hs
    have hb := small_bounds hs1
    have hsm : x.length * y.toNat ≤ sizeMax := of_decide_eq_true hs2
    obtain ⟨p, vs, n, rfl, g1, _, r1⟩ := seqOf_at I Ca e
    have hsm' : vs.length * y.toNat ≤ sizeMax := by rw [r1.length]; exact hsm
    unfold sizeMax at hsm'
    refine wpAny_binaryOp_repeat_ref (T := "list") (U := "int") (by decide) ⟨_, g1, rfl⟩ (fun s' => typeIs_int s' y u) noFill_list_mul F.fills_int_mul F.slot_int_rmul repeat_list F.slot_int_index.lookup
      (call_meets F.slot_int_rmul (typeIs_int s y u) F.entry_int_rmul (F.args_int_rmul_2 _ _) (int___rmul___int_list y u p vs.toArray n)
        ⟨g1, rfl, ⟨_, g1, rfl⟩, call_meets F.slot_list_mul ⟨_, g1, rfl⟩ F.entry_list_mul (F.args_list_mul_2 _ _)
          (AutoListH.list___mul___list_int_3 p vs.toArray n y u (by simp [Builtin.List.listFitsIndex]; lia) (by simp; lia) (by simp [Builtin.List.listTooLong, sizeLine]; lia))
          ⟨g1, ?_⟩⟩)
    rw [repV]
    have := KP.newList (n := 0) (tk := s.toks) I hX (by rw [repL_length]; exact hsm) (r1.rep y.toNat) hQ
    simpa [listO] using this
theorem seq2 {a b v : AV} {f : List AV → List AV → Option AV} (e : (match seqOf H a with | some x => (match seqOf H b with | some y => f x y | none => none) | none => none) = some v) : ∃ x y, seqOf H a = some x ∧ seqOf H b = some y ∧ f x y = some v := by
  cases h1 : seqOf H a with
  | none => rw [h1] at e; cases e
  | some x =>
    cases h2 : seqOf H b with
    | none => rw [h1, h2] at e; cases e
    | some y => rw [h1, h2] at e; exact ⟨x, y, rfl, rfl, e⟩
theorem add_sound (hop : addV H a b = some v) (I : InvH h₀ H σ X s.heap) (hX : ∀ a ∈ X, ∃ o, s.heap.get? a = some o) (Ca : Cv s.heap σ X a ca) (Cb : Cv s.heap σ X b cb) (hQ : KP σ X s v Q) :
    wpAny (model prog w) A (binaryOp .Add ca cb) Q E s := by
  cases a with
  | int x =>
    cases b with
    | int y => cases Ca; cases Cb; cases hop; exact PyProof.Rows.add_int (KP.here (s.toks + 1) (.int _ _) (fun _ e => nomatch e) hQ)
    | _ => cases hop
  | tup x =>
    cases b with
    | tup y => exact addT_sound hop I hX Ca Cb hQ
    | _ => cases hop
  | list x => obtain ⟨_, _, e1, e2, e3⟩ := seq2 (H := H) (a := .list x) (b := b) (f := catL) hop; exact addL_sound e1 e2 e3 I hX Ca Cb hQ
  | ref k => obtain ⟨_, _, e1, e2, e3⟩ := seq2 (H := H) (a := .ref k) (b := b) (f := catL) hop; exact addL_sound e1 e2 e3 I hX Ca Cb hQ
  | _ => cases hop
theorem mul_sound (hop : mulV H a b = some v) (I : InvH h₀ H σ X s.heap) (hX : ∀ a ∈ X, ∃ o, s.heap.get? a = some o) (Ca : Cv s.heap σ X a ca) (Cb : Cv s.heap σ X b cb) (hQ : KP σ X s v Q) :
    wpAny (model prog w) A (binaryOp .Mult ca cb) Q E s := by
  have lst : ∀ y, b = .int y → (match seqOf H a with | some x => repV' x y | none => none) = some v → wpAny (model prog w) A (binaryOp .Mult ca cb) Q E s := by
    intro y hb e
    subst hb
    cases h1 : seqOf H a with
    | none => rw [h1] at e; cases e
    | some x => rw [h1] at e; exact mulL_sound h1 e I hX Ca Cb hQ
  cases b with
  | int y =>
    cases a with
    | int x =>
      cases Ca; cases Cb
      have hop : (if (small x && small y) = true then some (AV.int (x * y)) else none) = some v := hop
      split at hop
      · rename_i hs; cases hop
        have hb := small_bounds (Bool.and_eq_true_iff.mp hs).1
        exact PyProof.Rows.mul_int (KP.here (s.toks + 1) (.int _ _) (fun _ e => nomatch e) hQ) (IntMulOk.of_left (intBits_le_64 (by lia) (by lia)))
      · cases hop
    | list x => exact lst y rfl hop
    | ref k => exact lst y rfl hop
    | _ => cases hop
  | _ => cases hop
theorem bin_sound {op : Operator} (hop : binV op a b H = some v) (I : InvH h₀ H σ X s.heap) (hX : ∀ a ∈ X, ∃ o, s.heap.get? a = some o)
    (Ca : Cv s.heap σ X a ca) (Cb : Cv s.heap σ X b cb) (hQ : KP σ X s v Q) : wpAny (model prog w) A (binaryOp op ca cb) Q E s := by
  cases op with
  | Add => exact add_sound hop I hX Ca Cb hQ
  | Mult => exact mul_sound hop I hX Ca Cb hQ
  | Sub =>
    obtain ⟨x, y, rfl, rfl, e⟩ := ints2_some hop
    cases Ca; cases Cb; cases e
    exact PyProof.Rows.sub_int (KP.here (s.toks + 1) (.int _ _) (fun _ e => nomatch e) hQ)
  | FloorDiv =>
    obtain ⟨x, y, rfl, rfl, e⟩ := ints2_some hop
    cases Ca; cases Cb
    split at e
    · cases e
    · rename_i hs; cases e
      simp only [Bool.or_eq_true, decide_eq_true_eq, Bool.not_eq_true', not_or, Bool.not_eq_false] at hs
      exact PyProof.Rows.floordiv_int hs.1 (KP.here (s.toks + 1) (.int _ _) (fun _ e => nomatch e) hQ) (.inl (PyProof.noPylong_small (of_decide_eq_true hs.2)))
  | Mod =>
    obtain ⟨x, y, rfl, rfl, e⟩ := ints2_some hop
    cases Ca; cases Cb
    split at e
    · cases e
    · rename_i hs; cases e
      exact PyProof.Rows.mod_int' hs (KP.here (s.toks + 1) (.int _ _) (fun _ e => nomatch e) hQ)
  | Pow =>
    obtain ⟨x, y, rfl, rfl, e⟩ := ints2_some hop
    cases Ca; cases Cb
    split at e
    · rename_i hs; cases e
      simp only [Bool.and_eq_true, decide_eq_true_eq] at hs
      obtain ⟨rfl, h1, h2⟩ := hs
      refine PyProof.Rows.pow_int h1 ?_ (KP.here (s.toks + 1) (.int _ _) (fun _ e => nomatch e) hQ)
      have : Builtin.Int.intBits 10 ≤ 64 := intBits_le_64 (by lia) (by lia)
      have h3 : (Builtin.Int.intBits 10 : Int) * y ≤ 64 * 64 := Int.mul_le_mul (by lia) h2 h1 (by lia)
      lia
    · cases e
  | _ => cases hop
end
end
end Mine

namespace Mine
open PySem PyProof.Rows

section
variable {prog : Program} {w : World} {A : Around} {E : Value → Shared → Prop} {s : Shared} {h₀ : Heap} {H : HP} {σ X : List Addr}

/-- data that is compared -/
theorem eq_reads {a : AV} {ca : Value} {a' : AV} (I : InvH h₀ H σ X s.heap) (Ca : Cv s.heap σ X a ca) (e : fz H a = some a') (ok : okD dMax a' = true) :
    (∃ as, Reads s.heap ca (toPy a') as) ∧ SeqAt.shaped (toPy a') = true := by
  have c := fz_at I Ca e
  obtain ⟨r, l, d⟩ := (reads_of dMax).1 c ok
  refine ⟨r, ?_⟩
  unfold SeqAt.shaped
  rw [l, Bool.true_and]
  unfold dMax at d
  exact decide_eq_true (by lia)

theorem eqV_sound {a b : AV} {ca cb : Value} {c : Bool} (neg : Bool) {Q : Value → Shared → Prop} (hop : eqV H a b = some c) (I : InvH h₀ H σ X s.heap) (hu : A.units + 100 < cLine)
    (Ca : Cv s.heap σ X a ca) (Cb : Cv s.heap σ X b cb) (hQ : Q (.bool (neg ^^ c)) s) : wpAny (model prog w) A (compareOp (if neg then .NotEq else .Eq) ca cb) Q E s := by
  unfold eqV at hop
  split at hop
  case h_2 => cases hop
  rename_i x e1
  split at hop
  case h_2 => cases hop
  rename_i y e2
  split at hop
  case isFalse => cases hop
  rename_i ok
  cases hop
  obtain ⟨o1, o2⟩ := Bool.and_eq_true_iff.mp ok
  obtain ⟨⟨as, ra⟩, sa⟩ := eq_reads I Ca e1 o1
  obtain ⟨⟨bs, rb⟩, sb⟩ := eq_reads I Cb e2 o2
  cases neg
  · exact eq_dataH ra rb sa sb (by lia) (by simpa using hQ)
  · exact ne_dataH ra rb sa sb (by lia) (by simpa using hQ)
/-- a list or a tuple: where it lies and what its items are -/
theorem items_at {o : AV} {co : Value} {xs : List AV} (I : InvH h₀ H σ X s.heap) (Co : Cv s.heap σ X o co) (e : itemsOf H o = some xs) :
    ∃ p vs n, co = .ref p ∧ (s.heap.get? p = some (listO vs n) ∨ s.heap.get? p = some (tupO vs n)) ∧ xs.length ≤ sizeMax ∧ CvL s.heap σ X xs vs := by
  cases Co with
  | tup hg _ _ hl r => cases e; exact ⟨_, _, _, rfl, .inr hg, hl, r⟩
  | list hg _ _ hl r => cases e; exact ⟨_, _, _, rfl, .inl hg, hl, r⟩
  | ref hk ho nd => let ⟨vs, n, hg, q⟩ := objs_at I hk ho nd e; exact ⟨_, vs, n, rfl, .inl hg, q⟩
  | _ => cases e
theorem inS_sound {a b : AV} {ca cb : Value} {c : Bool} (neg : Bool) {Q : Value → Shared → Prop} (hop : inS H a b = some c) (I : InvH h₀ H σ X s.heap) (hu : A.units + 100 < cLine)
    (Ca : Cv s.heap σ X a ca) (Cb : Cv s.heap σ X b cb) (hQ : Q (.bool (neg ^^ c)) s) : wpAny (model prog w) A (compareOp (if neg then .NotIn else .In) ca cb) Q E s := by
  unfold inS at hop
  split at hop
  case h_2 => cases hop
  rename_i xs hx
  unfold inL at hop
  split at hop
  case isFalse => cases hop
  rename_i ok
  cases hop
  obtain ⟨o1, o2⟩ := Bool.and_eq_true_iff.mp ok
  obtain ⟨p, vs, n, rfl, hg, _, r⟩ := items_at I Cb hx
  obtain ⟨⟨as, ra⟩, la, da⟩ := (reads_of dMax).1 Ca o2
  obtain ⟨⟨bs, rb⟩, lb, db⟩ := (reads_of 11).2 r o1
  have hd : A.units + 1 + min (PyData.depthAll (toPys xs)) (toPy a).depth < cLine := by
    have := Nat.min_le_left (PyData.depthAll (toPys xs)) (toPy a).depth
    lia
  rcases hg with hg | hg
  · cases neg
    · exact SeqAt.in_list_reads (reads_list_at hg rfl rfl rb) ra lb la hd (by simpa using hQ)
    · exact SeqAt.notIn_list_reads (reads_list_at hg rfl rfl rb) ra lb la hd (by simpa using hQ)
  · cases neg
    · exact SeqAt.in_tuple_reads (reads_tuple_at hg rfl rfl rb) ra lb la hd (by simpa using hQ)
    · exact SeqAt.notIn_tuple_reads (reads_tuple_at hg rfl rfl rb) ra lb la hd (by simpa using hQ)

theorem dctO_some {v : AV} {d : Nat} (h : dctO v = some d) : v = .dct d := by
  cases v with
  | dct k => cases h; rfl
  | _ => cases h
theorem inV_sound {a b : AV} {ca cb : Value} {c : Bool} (neg : Bool) {Q : Value → Shared → Prop} (hop : inV H a b = some c) (I : InvH h₀ H σ X s.heap) (hu : A.units + 100 < cLine)
    (Ca : Cv s.heap σ X a ca) (Cb : Cv s.heap σ X b cb) (hQ : ∀ tk, Q (.bool (neg ^^ c)) { s with toks := tk }) : wpAny (model prog w) A (compareOp (if neg then .NotIn else .In) ca cb) Q E s := by
  unfold inV at hop
  cases hd : dctO b with
  | none => rw [hd] at hop; exact inS_sound neg hop I hu Ca Cb (hQ s.toks)
  | some d =>
    rw [hd] at hop
    obtain rfl := dctO_some hd
    cases a with
    | int i =>
      obtain ⟨es, he, rfl⟩ := Option.map_eq_some_iff.mp (show (H[d]?).map (dKey i) = some c from hop)
      cases Ca with
      | int _ t =>
      cases Cb with
      | dct hk ho dd =>
        obtain ⟨_, kvs, D, r⟩ := dct_at I hk ho dd he
        obtain ⟨m, D⟩ := D.of (p := prog) (w := w)
        have hkey := intKind_is prog w i t
        cases neg
        · exact wpAny_in_of hkey m D.mapOf (by rw [r.at]; simpa using hQ (s.toks + 1))
        · exact wpAny_notIn_of hkey m D.mapOf (by rw [r.at]; simpa using hQ (s.toks + 1))
    | _ => cases hop
theorem isN_sound {a b : AV} {ca cb : Value} {c : Bool} (neg : Bool) {Q : Value → Shared → Prop} (hop : (if isNoneA b = true then some (neg ^^ isNoneA a) else none) = some c) (Ca : Cv s.heap σ X a ca) (Cb : Cv s.heap σ X b cb) (hQ : Q (.bool c) s) :
    wpAny (model prog w) A (compareOp (if neg then .IsNot else .Is) ca cb) Q E s := by
  split at hop
  case isFalse => cases hop
  rename_i hb
  cases hop
  have hcb : cb = .none := by cases Cb <;> first | rfl | exact Bool.noConfusion hb
  subst hcb
  cases neg
  · cases Ca <;> exact wpAny_is_plain rfl hQ
  · cases Ca <;> exact wpAny_isNot_plain rfl hQ
theorem cmp_sound {op : CmpOp} {a b : AV} {ca cb : Value} {c : Bool} {Q : Value → Shared → Prop} (hop : cmpV op a b H = some c) (I : InvH h₀ H σ X s.heap) (hu : A.units + 100 < cLine)
    (Ca : Cv s.heap σ X a ca) (Cb : Cv s.heap σ X b cb) (hQ' : ∀ tk, Q (.bool c) { s with toks := tk }) : wpAny (model prog w) A (compareOp op ca cb) Q E s := by
  have hQ : Q (.bool c) s := hQ' s.toks
  cases op with
  | Lt => obtain ⟨x, y, rfl, rfl, e⟩ := ints2_some hop; cases Ca; cases Cb; cases e; exact PyProof.Rows.lt_int hQ
  | LtE => obtain ⟨x, y, rfl, rfl, e⟩ := ints2_some hop; cases Ca; cases Cb; cases e; exact PyProof.Rows.le_int hQ
  | Gt => obtain ⟨x, y, rfl, rfl, e⟩ := ints2_some hop; cases Ca; cases Cb; cases e; exact PyProof.Rows.gt_int hQ
  | GtE => obtain ⟨x, y, rfl, rfl, e⟩ := ints2_some hop; cases Ca; cases Cb; cases e; exact PyProof.Rows.ge_int hQ
  | Eq => exact eqV_sound false hop I hu Ca Cb (by simpa using hQ)
  | NotEq =>
    obtain ⟨d, hd, rfl⟩ := Option.map_eq_some_iff.mp hop
    exact eqV_sound true hd I hu Ca Cb (by simpa using hQ)
  | In => exact inV_sound false hop I hu Ca Cb (by simpa using hQ')
  | NotIn =>
    obtain ⟨d, hd, rfl⟩ := Option.map_eq_some_iff.mp hop
    exact inV_sound true hd I hu Ca Cb (by simpa using hQ')
  | Is => exact isN_sound false (by rw [Bool.false_xor]; exact hop) Ca Cb hQ
  | IsNot => exact isN_sound true (by rw [Bool.true_xor]; exact hop) Ca Cb hQ

/-! ### items -/
theorem idx_seqIndex {n : Nat} {i : Int} {j : Nat} (h : idx n i = some j) : seqIndex? i n = some j ∧ j < n ∧ (0 ≤ i → j = i.toNat) ∧ (i < 0 → -(n : Int) ≤ i ∧ j = (i + n).toNat) := by
  unfold idx at h
  split at h
  · rename_i h0
    split at h
    · rename_i h1
      cases h
      refine ⟨?_, by lia, fun _ => rfl, fun q => by lia⟩
      unfold seqIndex?
      simp only [show ¬ i < 0 by lia, if_false]
      rw [if_pos (by simp only [Bool.and_eq_true, decide_eq_true_eq]; lia)]
    · cases h
  · rename_i h0
    split at h
    · rename_i h1
      cases h
      exact ⟨seqIndex_neg (by lia) (by lia), by lia, fun q => by lia, fun _ => ⟨by lia, rfl⟩⟩
    · cases h

theorem getIdx_sound {o i v : AV} {co ci : Value} {Q : Value → Shared → Prop} (hop : getIdx H o i = some v) (I : InvH h₀ H σ X s.heap)
    (Co : Cv s.heap σ X o co) (Ci : Cv s.heap σ X i ci) (hQ : ∀ cv, Cv s.heap σ X v cv → Q cv s) : wpAny (model prog w) A (getItem co ci) Q E s := by
  unfold getIdx at hop
  split at hop
  case h_2 => cases hop
  rename_i k
  cases Ci with
  | int _ t =>
  split at hop
  case h_2 => cases hop
  rename_i xs hx
  split at hop
  case h_2 => cases hop
  rename_i j hj
  obtain ⟨p, vs, n, rfl, hg, hlen, r⟩ := items_at I Co hx
  unfold sizeMax at hlen
  obtain ⟨hs1, hs2, hs3, hs4⟩ := idx_seqIndex hj
  obtain ⟨u, hu, cu⟩ := r.get hop
  have hlv := r.length
  rcases hg with hg | hg
  · have hl : s.heap.IsList p vs.toArray := ⟨_, hg, rfl, n, rfl⟩
    by_cases h0 : 0 ≤ k
    · exact wpAny_getItem_list hl h0 (by have := hs3 h0; lia) (by rw [← hs3 h0]; simpa using hu) (hQ u cu)
    · obtain ⟨q1, q2⟩ := hs4 (by lia)
      exact wpAny_getItem_list_neg hl (by lia) (by rw [List.size_toArray]; lia) (by lia) (x := u) (by rw [List.size_toArray, hlv, ← q2]; simpa using hu) (hQ u cu)
  · have b : -(1048576 : Int) ≤ k ∧ k < 1048576 := by
      by_cases h0 : 0 ≤ k
      · have := hs3 h0; lia
      · have := hs4 (by lia); lia
    exact getItem_tuple ⟨_, hg, rfl, _, rfl⟩ (by lia) (by lia) (by rw [List.size_toArray, hlv]; exact hs1) (by simpa using hu) (hQ u cu)
end
end Mine

namespace Mine
open PySem PyProof.Rows
section
variable {prog : Program} {w : World} {A : Around} {E : Value → Shared → Prop} {s : Shared} {h₀ : Heap} {H : HP} {σ X : List Addr}

theorem clamp_clip (n : Nat) (i : Int) : clamp n i = clipAt n i := by
  cases i with
  | ofNat a => exact (clipAt_nat n a).symm
  | negSucc k =>
    unfold clamp
    rw [if_pos (Int.negSucc_lt_zero k), show Int.negSucc k = -((k + 1 : Nat) : Int) from rfl, clipAt_neg n (k + 1) (Nat.le_add_left _ _), Int.add_comm, ← Int.sub_eq_add_neg, Int.toNat_sub]

theorem part_of {a : AV} {ca : Value} {k : Option Int} (c : Cv s.heap σ X a ca) (e : asOptInt a = some k) : IsPart ca k := by
  cases c <;> simp only [asOptInt] at e
  · cases e; exact .none
  · cases e
  · split at e
    · cases e; exact .int _ _
    · cases e
  all_goals cases e

theorem CvL.slice {h : Heap} {xs : List AV} {vs : List Value} (r : CvL h σ X xs vs) (lo hi : Option Int) :
    CvL h σ X (sliceL xs lo hi) ((vs.drop (lo.elim 0 (clipAt vs.length))).take ((hi.elim vs.length (clipAt vs.length)) - (lo.elim 0 (clipAt vs.length)))) := by
  unfold sliceL
  have e : clamp xs.length = clipAt vs.length := by funext i; rw [clamp_clip, r.length]
  rw [e, ← r.length]
  exact (r.drop _).take _

theorem sliceL_length (xs : List AV) (lo hi : Option Int) : (sliceL xs lo hi).length ≤ xs.length := by
  unfold sliceL
  rw [List.length_take, List.length_drop]
  exact Nat.le_trans (Nat.min_le_right _ _) (Nat.sub_le _ _)

theorem adjust_plain (lo hi : Option Int) (n : Nat) : Builtin.Slice.sliceAdjust lo hi 1 (n : Int) = (((lo.elim 0 (clipAt n) : Nat) : Int), ((hi.elim n (clipAt n) : Nat) : Int)) := by
  unfold Builtin.Slice.sliceAdjust
  cases lo <;> cases hi <;> simp [clipAt_cast] <;> (try constructor) <;> (try (split <;> lia)) <;> lia

theorem clipAt_le (n : Nat) (i : Int) : clipAt n i ≤ n := by
  cases i with
  | ofNat a => rw [show Int.ofNat a = (a : Int) from rfl, clipAt_nat]; exact Nat.min_le_right _ _
  | negSucc k => rw [show Int.negSucc k = -((k + 1 : Nat) : Int) from rfl, clipAt_neg n (k + 1) (Nat.le_add_left _ _)]; exact Nat.sub_le _ _

theorem pick_plain (xs : Array Value) (a k : Nat) : ((List.range k).filterMap fun (j : Nat) => xs[((a : Int) + (j : Int) * 1).toNat]?).toArray = ((xs.toList.drop a).take k).toArray := by
  have e : (fun (j : Nat) => xs[((a : Int) + (j : Int) * 1).toNat]?) = fun j => xs[a + j]? := by
    funext j
    have : ((a : Int) + (j : Int) * 1).toNat = a + j := by lia
    rw [this]
  rw [e]
  have := pick_run xs a k
  rw [List.filterMap_map] at this
  have e2 : ((fun x => xs[x]?) ∘ fun x => a + x) = fun k => xs[a + k]? := rfl
  rw [e2] at this
  rw [this]

theorem places_plain (a b : Nat) : Builtin.Slice.slicePlaces (a : Int) (b : Int) 1 = b - a := by
  unfold Builtin.Slice.slicePlaces
  simp only [show (1 : Int) > 0 by lia, if_true]
  split
  · rw [Int.ediv_one]; lia
  · lia

theorem slicePart_any {v : Value} {k : Option Int} {Q : Option Int → Shared → Prop} (p : IsPart v k) (h : Q k s) : wpAny (model prog w) A (Builtin.Slice.slicePartIndex v) Q E s := by
  cases p with
  | none => exact slicePart_none h
  | int i t => exact slicePart_int h

theorem getItem_tuple_slice {t sl : Addr} {vs : List Value} {n : Nat} {ca cb : Value} {lo hi : Option Int} {Q : Value → Shared → Prop} (ht : s.heap.get? t = some (tupO vs n))
    (hs : s.heap.IsSliceOf sl ca cb .none) (pa : IsPart ca lo) (pb : IsPart cb hi)
    (same : (vs.drop (lo.elim 0 (clipAt vs.length))).take (hi.elim vs.length (clipAt vs.length) - lo.elim 0 (clipAt vs.length)) = vs → Q (.ref t) s)
    (made : Q (.ref s.heap.objs.size) { s with heap := s.heap.push (tupO ((vs.drop (lo.elim 0 (clipAt vs.length))).take (hi.elim vs.length (clipAt vs.length) - lo.elim 0 (clipAt vs.length))) 0) })
    (hsz : vs.length ≤ sizeLine) : wpAny (model prog w) A (getItem (.ref t) (.ref sl)) Q E s := by
  have hT : IsTup s.heap t vs.toArray := ⟨_, ht, rfl, n, rfl⟩
  obtain ⟨os, hos, hcs, hds⟩ := id hs
  have hTs : s.TypeIs (.ref sl) "slice" := ⟨os, hos, hcs⟩
  generalize ha : lo.elim 0 (clipAt vs.length) = a at same made
  generalize hb : hi.elim vs.length (clipAt vs.length) = b at same made
  have hbn : b ≤ vs.length := by
    subst hb
    cases hi with
    | none => exact Nat.le_refl _
    | some i => exact clipAt_le _ _
  have hmade : sizeOk (.seq ((vs.drop a).take (b - a)).toArray) := by
    show ((vs.drop a).take (b - a)).toArray.size ≤ sizeLine
    rw [List.size_toArray, List.length_take, List.length_drop]
    exact Nat.le_trans (Nat.le_trans (Nat.min_le_right _ _) (Nat.sub_le _ _)) hsz
  have applied : ∀ {Q' : Int × Int × Nat → Shared → Prop} {A' : Around} {E' : Value → Shared → Prop}, Q' ((a : Int), 1, b - a) s → wpAny (model prog w) A' (Builtin.Slice.sliceApplied (.ref sl) (pure (vs.toArray.size : Int))) Q' E' s := by
    intro Q' A' E' hq
    unfold Builtin.Slice.sliceApplied Builtin.Slice.sliceFields
    refine wpAny_bind (wpAny_bind (wpAny_field hos hds (x := ca) rfl (wpAny_bind (wpAny_field hos hds (x := cb) rfl (wpAny_bind (wpAny_field hos hds (x := .none) rfl (wpAny_pure ?_)))))))
    refine wpAny_bind (slicePart_none ?_)
    show wpAny _ _ (if ((1 : Int) == 0) = true then _ else _) _ _ s
    rw [if_neg (by decide)]
    refine wpAny_bind (slicePart_any pa (wpAny_bind (slicePart_any pb (wpAny_bind (wpAny_pure ?_)))))
    show wpAny _ _ (match Builtin.Slice.sliceAdjust lo hi 1 (vs.toArray.size : Int) with | (x, y) => pure (x, (1 : Int), Builtin.Slice.slicePlaces x y 1)) _ _ s
    rw [List.size_toArray, adjust_plain, ha, hb]
    show wpAny _ _ (pure ((a : Int), (1 : Int), Builtin.Slice.slicePlaces (a : Int) (b : Int) 1)) _ _ s
    rw [places_plain]
    exact wpAny_pure hq
  unfold getItem
  try with_reducible refine wpAny_holding ?_
  first | refine wpAny_bind (wpAny_pure ?_) | skip
  refine wpAny_bind (wpAny_sequenceKey hT.typeIs (by decide) ?_)
  refine wpAny_bind (wpAny_callSpecial?_slot (name := Str.ofString "__getitem__") hT.typeIs slot_tuple_getitem
    (wpAny_call_entry slot_tuple_getitem hT.typeIs entry_tuple_getitem ?_ (args_tuple_getitem _ _)))
  show wpAny _ _ (Builtin.Tuple.tupleItemsOf (.ref t) >>= _) _ _ s
  refine wpAny_bind (tupleItemsOf_ hT ?_)
  refine wpAny_bind (wpAny_typeOf hTs ?_)
  rw [if_pos (by decide)]
  refine wpAny_bind (applied ?_)
  show wpAny _ _ (if ((a : Int) == 0 && (1 : Int) == 1 && (b - a) == vs.toArray.size) = true then _ else _) _ _ s
  have tail : ∀ {Q' : Fin → Shared → Prop} {E' : Value → Shared → Prop} {A' : Around}, (∀ v s', (∃ u, v = Fin.done (.ret u) ∧ u = .ref s.heap.objs.size ∧ s' = { s with heap := s.heap.push (tupO ((vs.drop a).take (b - a)) 0) }) → Q' v s') →
      wpAny (model prog w) A' (Builtin.Tuple.tupleExact ((List.range (b - a)).filterMap fun (k : Nat) => vs.toArray[((a : Int) + (k : Int) * 1).toNat]?).toArray >>= fun r => ret r) Q' E' s := by
    intro Q' E' A' hq
    rw [pick_plain]
    refine wpAny_bind (m := Builtin.Tuple.tupleExact _) (wpAny_newObj_type (wpAny_pure (hq _ _ ⟨_, rfl, rfl, rfl⟩)) hmade)
  by_cases hw : ((a : Int) == 0 && (1 : Int) == 1 && (b - a) == vs.toArray.size) = true
  · rw [if_pos hw]
    simp only [Bool.and_eq_true, beq_iff_eq, List.size_toArray] at hw
    have h0 : a = 0 := by lia
    refine wpAny_bind ?_
    refine wpAny_bind (wpAny_typeOf hT.typeIs (wpAny_pure ?_))
    rw [if_pos (by decide)]
    refine wpAny_bind (wpAny_rule ?_)
    refine wpAny_pure ⟨_, rfl, wpAny_pure (same ?_)⟩
    subst h0
    rw [List.drop_zero, hw.2, List.take_length]
  · rw [if_neg hw]
    refine tail fun v s' hv => ?_
    obtain ⟨u, rfl, rfl, rfl⟩ := hv
    exact ⟨_, rfl, wpAny_pure made⟩

theorem getSl_sound {o v : AV} {co ca cb : Value} {lo hi : Option Int} {sl : Addr} {Q : Value → Shared → Prop} (hop : getSl H o lo hi = some v) (I : InvH h₀ H σ X s.heap) (hX : ∀ a ∈ X, ∃ o, s.heap.get? a = some o)
    (Co : Cv s.heap σ X o co) (hs : s.heap.IsSliceOf sl ca cb .none) (pa : IsPart ca lo) (pb : IsPart cb hi) (hQ : KP σ X s v Q) : wpAny (model prog w) A (getItem co (.ref sl)) Q E s := by
  have hsz := sizeLine_ge
  unfold getSl at hop
  split at hop
  · rename_i xs
    cases hop
    cases Co with
    | tup hg h1 h2 hl r =>
      rename_i p vs n
      have rs := r.slice lo hi
      have hlen : (sliceL xs lo hi).length ≤ sizeMax := Nat.le_trans (sliceL_length _ _ _) hl
      refine getItem_tuple_slice hg hs pa pb (fun e => ?_) ?_ (by rw [r.length]; lia)
      · rw [e] at rs
        exact KP.here s.toks (.tup hg h1 h2 hlen rs) (fun _ => by simp) hQ
      · exact KP.newTup (n := 0) (tk := s.toks) I hX hlen rs hQ
  · rename_i u _
    obtain ⟨xs, hx, rfl⟩ := Option.map_eq_some_iff.mp hop
    obtain ⟨p, vs, n, rfl, hg, hl, r⟩ := seqOf_at I Co hx
    refine wpAny_getItem_list_slice (items := vs.toArray) ⟨_, hg, rfl, n, rfl⟩ hs pa pb .none (by simp) ?_ (by simp [r.length]; lia)
    rw [slicePick_plain]
    have rs := r.slice lo hi
    have := KP.newList (n := 0) (tk := s.toks) I hX (Nat.le_trans (sliceL_length _ _ _) hl) rs hQ
    simpa [listO] using this
end
end Mine

namespace Mine
open PySem PyProof.Rows

noncomputable def bfV : BF → Value
  | .len => .builtin "len"
  | .range => .type "range"
  | .list => .type "list"
  | .all => .builtin "all"

section
variable {prog : Program} {w : World} {A : Around} {E : Value → Shared → Prop} {s : Shared} {h₀ : Heap} {H : HP} {σ X : List Addr}

theorem asBool_some {v : AV} {b : Bool} (e : asBool v = some b) : v = .bool b := by
  cases v with
  | bool c => cases e; rfl
  | _ => cases e
theorem CvL.bools {h : Heap} {xs : List AV} {vs : List Value} {bs : List Bool} (q : CvL h σ X xs vs) (e : boolsOf xs = some bs) : vs = bs.map .bool := by
  induction xs generalizing vs bs with
  | nil => cases q; cases e; rfl
  | cons x xs ih =>
    cases q with
    | cons c r =>
      replace e : (match asBool x with | some b => (boolsOf xs).map (b :: ·) | none => none) = some bs := e
      cases hb : asBool x with
      | none => rw [hb] at e; cases e
      | some b =>
        rw [hb] at e
        obtain ⟨l, hl, rfl⟩ := Option.map_eq_some_iff.mp e
        obtain rfl := asBool_some hb
        cases c
        rw [ih r hl]; rfl

theorem one_sound {args : List AV} {cs : List Value} {v : AV} {k : AV → Option AV} (e : one args k = some v) (C : CvL s.heap σ X args cs) : ∃ a c, cs = [c] ∧ Cv s.heap σ X a c ∧ k a = some v := by
  unfold one at e
  split at e
  · cases C with | cons c r => cases r; exact ⟨_, _, rfl, c, e⟩
  · cases e
section
variable {a v : AV} {c : Value} {Q : Value → Shared → Prop}
theorem len_sound (hop : callLen H a = some v) (I : InvH h₀ H σ X s.heap) (C : Cv s.heap σ X a c) (hQ : KP σ X s v Q) : wpAny (model prog w) A (call (.builtin "len") [c]) Q E s := by
  obtain ⟨xs, hx, rfl⟩ := Option.map_eq_some_iff.mp hop
  obtain ⟨p, vs, n, rfl, hg, hl, r⟩ := items_at I C hx
  have hv : vs.toArray.size = xs.length := by rw [List.size_toArray, r.length]
  have hs : vs.toArray.size < 2 ^ 40 := by rw [hv]; unfold sizeMax at hl; lia
  have q := KP.here (s.toks + 1 + 1) (.int (xs.length : Int) (s.toks + 1)) (fun _ e => nomatch e) hQ
  rcases hg with hg | hg
  · refine len_list (items := vs.toArray) ⟨_, hg, rfl, n, rfl⟩ (by lia) ?_
    rw [hv]; exact q
  · refine len_tuple ⟨_, hg, rfl, _, rfl⟩ (by lia) ?_
    rw [hv]; exact q
theorem rangeSize_nat (a b : Int) : Builtin.Range.rangeSize a b 1 = ((b - a).toNat : Int) := by
  rw [rangeSize_one]
  split <;> lia
theorem CvL.range {h : Heap} : ∀ (vs : List Value) (a : Int) (n : Nat), vs.length = n → (∀ (j : Nat) v, vs[j]? = some v → ∃ t, v = .int (a + j) t) → CvL h σ X ((List.range n).map fun (i : Nat) => AV.int (a + (i : Int))) vs
  | [], a, n, hn, _ => by cases hn; exact .nil
  | v :: vs, a, n, hn, hv => by
    cases hn
    rw [List.length_cons, List.range_succ_eq_map, List.map_cons, List.map_map]
    obtain ⟨t, rfl⟩ := hv 0 v rfl
    refine .cons (.int _ _) ?_
    have := CvL.range (h := h) vs (a + 1) vs.length rfl fun j u hj => by
      obtain ⟨t, e⟩ := hv (j + 1) u hj
      exact ⟨t, by rw [e]; congr 1; push_cast; lia⟩
    have e : ((fun (i : Nat) => AV.int (a + (i : Int))) ∘ Nat.succ) = fun (i : Nat) => AV.int (a + 1 + (i : Int)) := by
      funext i; simp only [Function.comp]; congr 1; push_cast; lia
    rw [e]; exact this
theorem list_sound (hop : (itemsOf H a).map AV.list = some v) (I : InvH h₀ H σ X s.heap) (hX : ∀ a ∈ X, ∃ o, s.heap.get? a = some o) (C : Cv s.heap σ X a c) (hQ : KP σ X s v Q) : wpAny (model prog w) A (call (.type "list") [c]) Q E s := by
  obtain ⟨xs, hx, rfl⟩ := Option.map_eq_some_iff.mp hop
  obtain ⟨p, vs, n, rfl, hg, hl, r⟩ := items_at I C hx
  have hsz := sizeLine_ge
  have seq : ∀ (o : Obj) T, (T = "list" ∨ T = "tuple") → s.heap.get? p = some o → o.cls = .type T → o.data = .seq vs.toArray n → wpAny (model prog w) A (call (.type "list") [.ref p]) Q E s := by
    intro o T hT hg hc hd
    refine call_list_seq p hT hg hc hd (fun h' c' hk hD => ?_) (by rw [List.size_toArray, r.length]; lia)
    exact hQ _ h' s.toks hk (.list (vs := vs) hD (I.none_at (get_size_none _)) (fun m => by obtain ⟨o, e⟩ := hX _ m; rw [get_size_none] at e; cases e) hl (r.keeps hk)) fun _ a _ e => by cases e; exact get_size_none _
  rcases hg with hg | hg
  · exact seq _ "list" (.inl rfl) hg rfl rfl
  · exact seq _ "tuple" (.inr rfl) hg rfl rfl
theorem all_sound (hop : allV H a = some v) (I : InvH h₀ H σ X s.heap) (hh : A.handled = none) (C : Cv s.heap σ X a c) (hQ : KP σ X s v Q) : wpAny (model prog w) A (call (.builtin "all") [c]) Q E s := by
  unfold allV at hop
  split at hop
  case h_2 => cases hop
  rename_i xs hx
  obtain ⟨bs, hb, rfl⟩ := Option.map_eq_some_iff.mp hop
  obtain ⟨p, vs, n, rfl, hg, hl, r⟩ := seqOf_at I C hx
  have hv := r.bools hb
  subst hv
  have hL : s.heap.IsList p (bs.map Value.bool).toArray := ⟨_, hg, rfl, n, rfl⟩
  have hne : p ≠ s.heap.objs.size := Nat.ne_of_lt (Heap.lt_size hg)
  refine call_all_walk (wpAny_pyIter_list hL ⟨_, _, _, _, _, _, fun i => bs.getD i true, rfl, Walks.list (A := A.in1) hh s.heap.objs.size p hne (bs.map Value.bool).toArray, ⟨⟨_, Heap.get?_push_size _ rfl, rfl, rfl⟩, hL.push _⟩, ?_, fun h' tk hk => ?_⟩)
  · intro i v s' Q' E' hP hq
    have hP' : (bs.map Value.bool)[i]? = some v := by simpa using hP
    rw [List.getElem?_map] at hP'
    obtain ⟨b, e1, rfl⟩ := Option.map_eq_some_iff.mp hP'
    refine wpAny_truthy_bool ?_
    simpa [List.getD, e1] using hq
  · have e : ((List.range (bs.map Value.bool).toArray.size).all fun i => bs.getD i true) = bs.all id := by
      rw [List.size_toArray, List.length_map, Bool.eq_iff_iff, List.all_eq_true, List.all_eq_true]
      constructor
      · intro h b hb
        obtain ⟨i, hi, e⟩ := List.mem_iff_getElem.mp hb
        have := h i (List.mem_range.mpr hi)
        simpa [List.getD, hi, e] using this
      · intro h i hi
        have hi' := List.mem_range.mp hi
        simpa [List.getD, hi'] using h _ (List.getElem_mem hi')
    rw [e]
    exact hQ _ h' tk (fun b o eb => hk b o (by rw [List.mem_singleton]; exact Nat.ne_of_lt (Heap.lt_size eb)) (Heap.get?_push_of_some _ eb)) (.bool _) fun _ _ q => (nomatch q)
theorem range_sound (hop : rngV a = some v) (I : InvH h₀ H σ X s.heap) (hX : ∀ a ∈ X, ∃ o, s.heap.get? a = some o) (C : Cv s.heap σ X a c) (hQ : KP σ X s v Q) : wpAny (model prog w) A (call (.type "range") [c]) Q E s := by
  cases C with
  | int b t =>
    have hop : (if small b = true then some (AV.range 0 b) else none) = some v := hop
    split at hop
    case isFalse => cases hop
    rename_i hs; cases hop
    exact call_range_1 (hQ _ _ _ (fun b o e => Heap.get?_push_of_some _ e) (.range (Heap.get?_push_size _ rfl) (I.none_at (get_size_none _)) (fun m => by obtain ⟨o, e⟩ := hX _ m; rw [get_size_none] at e; cases e) (by decide) hs) fun _ _ e => (nomatch e))
  | _ => cases hop
end
theorem callBF_sound {f : BF} {args : List AV} {cs : List Value} {v : AV} {Q : Value → Shared → Prop} (hop : callBF f args H = some v) (I : InvH h₀ H σ X s.heap) (hX : ∀ a ∈ X, ∃ o, s.heap.get? a = some o)
    (C : CvL s.heap σ X args cs) (hh : A.handled = none) (hQ : KP σ X s v Q) : wpAny (model prog w) A (call (bfV f) cs) Q E s := by
  cases f with
  | len => obtain ⟨_, _, rfl, c, e⟩ := one_sound hop C; exact len_sound e I c hQ
  | range => obtain ⟨_, _, rfl, c, e⟩ := one_sound hop C; exact range_sound e I hX c hQ
  | list => obtain ⟨_, _, rfl, c, e⟩ := one_sound hop C; exact list_sound e I hX c hQ
  | all => obtain ⟨_, _, rfl, c, e⟩ := one_sound hop C; exact all_sound e I hh c hQ
end
end Mine

namespace Mine
open PySem PyProof.Rows

noncomputable def tyN : Ty → String
  | .tuple => "tuple"
  | .list => "list"
  | .str => "str"
  | .int => "int"
  | .bool => "bool"

section
variable {prog : Program} {w : World} {A : Around} {E : Value → Shared → Prop} {s : Shared} {h₀ : Heap} {H : HP} {σ X : List Addr}

theorem meta_of (t : Ty) : typeOf (.type (tyN t)) = pure (.type "type") := by
  cases t
  · exact F.isi_meta_tuple
  · exact F.isi_meta_list
  · exact F.isi_meta_str
  · exact F.isi_meta_int
  · exact F.isi_meta_bool

theorem ans_none (t : Ty) : Answers (fun s => s.TypeIs .none "NoneType") .none (.type (tyN t)) false := by
  cases t
  · exact Answers.of_false_none (by decide) F.isi_meta_tuple F.sub_NoneType_tuple
  · exact Answers.of_false_none (by decide) F.isi_meta_list F.sub_NoneType_list
  · exact Answers.of_false_none (by decide) F.isi_meta_str F.sub_NoneType_str
  · exact Answers.of_false_none (by decide) F.isi_meta_int F.sub_NoneType_int
  · exact Answers.of_false_none (by decide) F.isi_meta_bool F.sub_NoneType_bool
theorem ans_bool (b : Bool) (t : Ty) : Answers (fun s => s.TypeIs (.bool b) "bool") (.bool b) (.type (tyN t)) (isBoo t || isInt t) := by
  cases t
  · exact Answers.of_false_bool (by decide) F.isi_meta_tuple F.sub_bool_tuple
  · exact Answers.of_false_bool (by decide) F.isi_meta_list F.sub_bool_list
  · exact Answers.of_false_bool (by decide) F.isi_meta_str F.sub_bool_str
  · exact Answers.of_true F.isi_meta_int F.sub_bool_int
  · exact Answers.of_true F.isi_meta_bool F.sub_bool_bool
theorem ans_int (i : Int) (u : Tok) (t : Ty) : Answers (fun s => s.TypeIs (.int i u) "int") (.int i u) (.type (tyN t)) (isInt t) := by
  cases t
  · exact Answers.of_false_int (by decide) F.isi_meta_tuple F.sub_int_tuple
  · exact Answers.of_false_int (by decide) F.isi_meta_list F.sub_int_list
  · exact Answers.of_false_int (by decide) F.isi_meta_str F.sub_int_str
  · exact Answers.of_true F.isi_meta_int F.sub_int_int
  · exact Answers.of_false_int (by decide) F.isi_meta_bool F.sub_int_bool
theorem ans_str (x : Str) (u : Tok) (t : Ty) : Answers (fun s => s.TypeIs (.str x u) "str") (.str x u) (.type (tyN t)) (isStr t) := by
  cases t
  · exact Answers.of_false_str (by decide) F.isi_meta_tuple F.sub_str_tuple
  · exact Answers.of_false_str (by decide) F.isi_meta_list F.sub_str_list
  · exact Answers.of_true F.isi_meta_str F.sub_str_str
  · exact Answers.of_false_str (by decide) F.isi_meta_int F.sub_str_int
  · exact Answers.of_false_str (by decide) F.isi_meta_bool F.sub_str_bool
theorem ans_tup (a : Addr) (t : Ty) : Answers (fun s => s.TypeIs (.ref a) "tuple") (.ref a) (.type (tyN t)) (isTup t) := by
  cases t
  · exact Answers.of_true F.isi_meta_tuple F.sub_tuple_tuple
  · exact Answers.of_false_tuple (by decide) F.isi_meta_list F.sub_tuple_list
  · exact Answers.of_false_tuple (by decide) F.isi_meta_str F.sub_tuple_str
  · exact Answers.of_false_tuple (by decide) F.isi_meta_int F.sub_tuple_int
  · exact Answers.of_false_tuple (by decide) F.isi_meta_bool F.sub_tuple_bool
theorem ans_list (a : Addr) (t : Ty) : Answers (fun s => s.TypeIs (.ref a) "list") (.ref a) (.type (tyN t)) (isLis t) := by
  cases t
  · exact Answers.of_false_list (by decide) F.isi_meta_tuple F.sub_list_tuple
  · exact Answers.of_true F.isi_meta_list F.sub_list_list
  · exact Answers.of_false_list (by decide) F.isi_meta_str F.sub_list_str
  · exact Answers.of_false_list (by decide) F.isi_meta_int F.sub_list_int
  · exact Answers.of_false_list (by decide) F.isi_meta_bool F.sub_list_bool

theorem ans_all {P : Shared → Prop} {x : Value} {f : Ty → Bool} (ha : ∀ t, Answers P x (.type (tyN t)) (f t)) : ∀ (ts : List Ty), AnswersAll P x (ts.map fun t => .type (tyN t)) (ts.map f)
  | [] => trivial
  | t :: ts => ⟨ha t, ans_all ha ts⟩

/-- what the value's type is, and what isinstance answers -/
theorem types_of {v : AV} {c : Value} {ts : List Ty} {b : Bool} (I : InvH h₀ H σ X s.heap) (cv : Cv s.heap σ X v c) (e : isAny H v ts = some b) :
    ∃ Tx, s.TypeIs c Tx ∧ (∀ t, Answers (fun s => s.TypeIs c Tx) c (.type (tyN t)) (tyB v t)) ∧ b = ts.any (tyB v) := by
  unfold isAny at e
  split at e
  case isTrue => cases e
  rename_i hn
  cases e
  cases cv with
  | none => exact ⟨"NoneType", rfl, ans_none, rfl⟩
  | bool b => exact ⟨"bool", rfl, ans_bool b, rfl⟩
  | int i u => exact ⟨"int", rfl, ans_int i u, rfl⟩
  | str x u => exact ⟨"str", rfl, ans_str x u, rfl⟩
  | tup hg _ _ _ _ => exact ⟨"tuple", ⟨_, hg, rfl⟩, ans_tup _, rfl⟩
  | list hg _ _ _ _ => exact ⟨"list", ⟨_, hg, rfl⟩, ans_list _, rfl⟩
  | range _ _ _ _ _ => exact absurd rfl hn
  | obj _ _ _ _ => exact absurd rfl hn
  | dct _ _ _ => exact absurd rfl hn
  | @ref k a _ hk ho nd =>
    cases he : H[k]? with
    | none => exact absurd (by show (false || !(H[k]?).isSome) = true; rw [he]; rfl) hn
    | some o =>
      obtain ⟨vs, n, hg, _⟩ := objs_at I hk ho nd he
      exact ⟨"list", ⟨_, hg, rfl⟩, ans_list _, rfl⟩

theorem isi_one {v : AV} {c : Value} {t : Ty} {b : Bool} {Q : Value → Shared → Prop} (I : InvH h₀ H σ X s.heap) (cv : Cv s.heap σ X v c) (e : isAny H v [t] = some b) (hQ : ∀ tk, Q (.bool b) { s with toks := tk }) :
    wpAny (model prog w) A (call (.builtin "isinstance") [c, .type (tyN t)]) Q E s := by
  obtain ⟨Tx, hT, ha, rfl⟩ := types_of I cv e
  refine call_isinstance (S := fun _ R s => s.TypeIs c Tx ∧ ∀ tk, R (.ok (.ret (.bool (tyB v t)))) { s with toks := tk }) (fun _ _ _ _ _ hs => isinstance_outer (ha t 0 0 _ _ _ _ _ hs) (Shared.TypeIs.not_mainsLoader hs.1)) ⟨hT, fun tk => ?_⟩
  have := hQ tk
  rw [List.any_cons, List.any_nil, Bool.or_false] at this
  exact this

theorem isi_many {v : AV} {c : Value} {ts : List Ty} {b : Bool} {tp : Addr} {Q : Value → Shared → Prop} (I : InvH h₀ H σ X s.heap) (cv : Cv s.heap σ X v c) (e : isAny H v ts = some b)
    (ht : s.heap.get? tp = some (tupO (ts.map fun t => .type (tyN t)) 0)) (hQ : ∀ tk, Q (.bool b) { s with toks := tk }) :
    wpAny (model prog w) A (call (.builtin "isinstance") [c, .ref tp]) Q E s := by
  obtain ⟨Tx, hT, ha, rfl⟩ := types_of I cv e
  refine IsiPair.tupleOf (ans_all ha ts) hT ht fun tk => ?_
  have := hQ tk
  rw [List.any_map]
  exact this
end
end Mine

namespace Mine
open PySem PyProof.Rows

section
variable {prog : Program} {w : World} {A : Around} {E : Value → Shared → Prop} {s : Shared} {h₀ : Heap} {H : HP} {σ X : List Addr}

theorem InvH.putO {h h' : Heap} {k : Nat} {a : Addr} {ys : List AV} (I : InvH h₀ H σ X h) (hk : σ[k]? = some a) (hkd : ∀ o, h.get? a = some o → ∃ o', h'.get? a = some o' ∧ (isDict o ↔ isDict o')) (hs : Heap.SameBut a h h')
    (okN : Ext [] σ σ h h' → ObjOk h' σ X a ys) : Ext [] σ σ h h' ∧ InvH h₀ (setAO H k ys) σ X h' := by
  have ma : a ∈ σ := List.mem_of_getElem? hk
  have kd : ∀ b o, h.get? b = some o → ∃ o', h'.get? b = some o' ∧ (isDict o ↔ isDict o') := fun b o e => by
    by_cases q : b = a
    · subst q; exact hkd o e
    · exact ⟨o, (hs.2 b q).trans e, Iff.rfl⟩
  have E : Ext [] σ σ h h' := ⟨fun b o e hb _ _ => (hs.2 b fun q => hb (q ▸ ma)).trans e, fun b o e hb _ => ⟨o.slots, (hs.2 b fun q => hb (q ▸ ma)).trans e⟩, fun b o e => let ⟨o', e', d⟩ := kd b o e; ⟨o', e', d.mp⟩, List.prefix_refl _, fun _ m => .inl m, fun b o _ e => kd b o e⟩
  refine ⟨E, ⟨fun b o e => (hs.2 b fun q => ?_).trans (I.keep b o e), I.low, by simp [setAO, I.len], I.nodup, I.apart, fun j o e => ?_⟩⟩
  · rw [q, I.low a ma] at e; cases e
  · by_cases hj : j = k
    · subst hj
      have hlt : j < H.length := by rw [← I.len]; exact (List.getElem?_eq_some_iff.mp hk).1
      have : o = ys := by
        unfold setAO at e
        rw [List.getElem?_set_self hlt] at e
        exact (Option.some.inj e).symm
      subst this
      exact ⟨a, hk, okN E⟩
    · unfold setAO at e
      rw [List.getElem?_set_ne (Ne.symm hj)] at e
      obtain ⟨b, hb, ok⟩ := I.objs j o e
      refine ⟨b, hb, ok.ext (fun ob eb => (hs.2 b fun q => ?_).trans eb) E NoData.nil⟩
      subst q
      obtain ⟨h1, e1⟩ := List.getElem?_eq_some_iff.mp hb
      obtain ⟨h2, e2⟩ := List.getElem?_eq_some_iff.mp hk
      rcases Nat.lt_or_gt_of_ne hj with q | q
      · exact List.pairwise_iff_getElem.mp I.nodup j k h1 h2 q (e1.trans e2.symm)
      · exact List.pairwise_iff_getElem.mp I.nodup k j h2 h1 q (e2.trans e1.symm)
theorem InvH.put {h h' : Heap} {k : Nat} {a : Addr} {ys : List AV} {ws : List Value} {n : Nat} (I : InvH h₀ H σ X h) (hk : σ[k]? = some a) (hnd : ∀ o, h.get? a = some o → noDict o) (hs : Heap.SameBut a h h') (hg : h'.get? a = some (listO ws n)) (hl : ys.length ≤ sizeMax)
    (r : CvL h σ X ys ws) : Ext [] σ σ h h' ∧ InvH h₀ (setAO H k ys) σ X h' :=
  I.putO hk (fun o e => ⟨_, hg, fun d => absurd d (hnd o e), fun d => absurd d noDict_list⟩) hs fun E => .inl ⟨hl, ws, n, hg, r.ext E NoData.nil⟩

/-- what a step that changes one list hands on -/
noncomputable def KM (h₀ : Heap) (σ X : List Addr) (s : Shared) (H' : HP) (v : AV) (Q : Value → Shared → Prop) : Prop :=
  ∀ cv h' tk, Ext [] σ σ s.heap h' → InvH h₀ H' σ X h' → Cv h' σ X v cv → Q cv { s with heap := h', toks := tk }

theorem KM.upd {k : Nat} {a : Addr} {vs : List Value} {n : Nat} {f : Array Value → Array Value} {ys : List AV} {v : AV} {cv : Value} {Q : Value → Shared → Prop} (I : InvH h₀ H σ X s.heap) (hk : σ[k]? = some a)
    (hg : s.heap.get? a = some (listO vs n)) (hl : ys.length ≤ sizeMax) (r : CvL s.heap σ X ys (f vs.toArray).toList) (c : Cv s.heap σ X v cv) (hQ : KM h₀ σ X s (setAO H k ys) v Q) :
    Q cv { s with heap := s.heap.update a (Obj.mapSeq f) } := by
  have hg' : ∃ m, (s.heap.update a (Obj.mapSeq f)).get? a = some (listO (f vs.toArray).toList m) := by
    rw [Heap.get?_update_self (Obj.mapSeq f) hg rfl]
    simp only [Obj.mapSeq, listO, Array.toArray_toList]
    exact ⟨_, rfl⟩
  obtain ⟨m, hg'⟩ := hg'
  obtain ⟨E, I'⟩ := I.put hk (fun o e => by rw [hg] at e; cases e; exact noDict_list) (Heap.SameBut.update ..) hg' hl r
  exact hQ cv _ s.toks E I' (c.ext E NoData.nil)

noncomputable def lmN : LM → String
  | .append => "list.append"
  | .insert => "list.insert"
  | .index => "list.index"
  | .count => "list.count"
theorem lm_sound {k : Nat} {m : LM} {a : Addr} {xs ys args : List AV} {cs : List Value} {u : AV} {Q : Value → Shared → Prop} (I : InvH h₀ H σ X s.heap) (hc : Cv s.heap σ X (.ref k) (.ref a)) (hx : H[k]? = some xs) (hop : lmV H m xs args = some (u, ys))
    (C : CvL s.heap σ X args cs) (hQ : KM h₀ σ X s (setAO H k ys) u Q) : wpAny (model prog w) A (call (.builtin (lmN m)) (.ref a :: cs)) Q E s := by
  obtain ⟨hk, vs, n, hg, hl, r⟩ : σ[k]? = some a ∧ ∃ vs n, s.heap.get? a = some (listO vs n) ∧ xs.length ≤ sizeMax ∧ CvL s.heap σ X xs vs := by
    cases hc with | ref hk ho nd => exact ⟨hk, objs_at I hk ho nd hx⟩
  have hsz := sizeLine_ge
  have hT : s.TypeIs (.ref a) "list" := ⟨_, hg, rfl⟩
  have hv := r.length
  cases m with
  | append =>
    simp only [lmV] at hop
    split at hop
    case h_2 => cases hop
    split at hop
    case isFalse => cases hop
    rename_i h2; cases hop
    cases C with
    | cons c r' =>
      cases r'
      exact call_meets F.slot_list_append hT F.entry_list_append (F.args_list_append_2 _ _) (list_append a vs.toArray n _ (by rw [List.size_toArray]; lia)) ⟨hg, KM.upd I hk hg (by rw [List.length_append]; exact h2) (by simpa using r.append (.cons c .nil)) .none hQ⟩
  | insert =>
    simp only [lmV] at hop
    split at hop
    case h_2 => cases hop
    split at hop
    case h_2 => cases hop
    split at hop
    case isFalse => cases hop
    rename_i hs; cases hop
    obtain ⟨h1, h2⟩ := Bool.and_eq_true_iff.mp hs
    have h1 := of_decide_eq_true h1
    have h2 := of_decide_eq_true h2
    subst h1
    cases C with
    | cons c r' =>
      cases c
      cases r' with
      | cons c r'' =>
        cases r''
        refine call_meets F.slot_list_insert hT F.entry_list_insert (F.args_list_insert_3 _ _ _) (AutoSeq1.list_insert_list_int_val_1 a vs.toArray n 0 _ _ (by simp [Builtin.List.listFitsIndex]) (by rw [List.size_toArray]; lia)) ⟨hg, KM.upd I hk hg (by rw [List.length_cons]; exact h2) ?_ .none hQ⟩
        simpa using CvL.cons c r
  | index => cases hop
  | count => cases hop

theorem eqB_of {bs : List Bool} {c : Bool} : ∀ y, y ∈ (bs.map Value.bool).toArray → MeetsSeq.EqGives y (.bool c) (isBoolOf c y) := fun y m => by
  obtain ⟨b, _, rfl⟩ := List.mem_map.mp (List.mem_toArray.mp m)
  exact fun prog w A E s Q h => PySem.SeqAt.EqAt.bool_bool (A := A) (s := s) b c prog w E Q h
theorem lmF_sound {m : LM} {a : Addr} {xs args : List AV} {vs cs : List Value} {n : Nat} {u : AV} {Q : Value → Shared → Prop} (hg : s.heap.get? a = some (listO vs n)) (r : CvL s.heap σ X xs vs) (hl : vs.length ≤ sizeMax) (h : lmF m xs args = some u)
    (C : CvL s.heap σ X args cs) (hQ : ∀ cv tk, Cv s.heap σ X u cv → Q cv { s with toks := tk }) : wpAny (model prog w) A (call (.builtin (lmN m)) (.ref a :: cs)) Q E s := by
  have hT : s.TypeIs (.ref a) "list" := ⟨_, hg, rfl⟩
  unfold lmF at h
  split at h
  case h_2 => cases h
  rename_i b
  obtain ⟨c, hc, h1⟩ := Option.bind_eq_some_iff.mp h
  obtain ⟨bs, hb, h2⟩ := Option.bind_eq_some_iff.mp h1
  clear h h1
  obtain rfl := asBool_some hc
  obtain rfl := r.bools hb
  cases C with
  | cons c0 r' =>
  cases r'; cases c0
  cases m with
  | count =>
    cases h2
    refine call_meets F.slot_list_count hT F.entry_list_count (F.args_list_count_2 _ _) (MeetsSeq.list_count a _ n _ (isBoolOf c) eqB_of) ⟨hg, ?_⟩
    have e : ((bs.map Value.bool).toArray.toList.countP (isBoolOf c)) = bs.countP (· == c) := by
      show ((bs.map Value.bool).countP (isBoolOf c)) = _
      rw [List.countP_map]; rfl
    rw [e]; exact hQ _ _ (.int _ _)
  | index =>
    obtain ⟨j, hj, rfl⟩ := Option.map_eq_some_iff.mp (show (bs.findIdx? (· == c)).map (fun (j : Nat) => AV.int (j : Int)) = some u from h2)
    obtain ⟨h1, h2, h3⟩ := List.findIdx?_eq_some_iff_getElem.mp hj
    rw [List.length_map] at hl
    unfold sizeMax at hl
    refine call_meets F.slot_list_index hT F.entry_list_index (F.args_list_index_2 _ _) (MeetsSeq.list_index a _ n _ (isBoolOf c) eqB_of j (by simpa using h1) (by lia) ?_ fun m hm hmj => ?_) ⟨hg, hQ _ _ (.int _ _)⟩
    · simpa [isBoolOf] using h2
    · have := h3 m hmj
      simpa [isBoolOf] using this
  | _ => cases h2
end
end Mine

set_option maxRecDepth 100000
namespace Mine
open PySem PyProof.Rows PySem.Calls

/-! ### classes of exceptions of the text -/
noncomputable def qN : List Str := ["__init__", "__getattribute__", "__getattr__", "args", "__class__"]
noncomputable def bmV : List Value := [.type "ValueError", .type "Exception", .type "BaseException", .type "object"]
inductive TailC (h : Heap) : List Value → Prop
  | base : TailC h bmV
  | own {A : Addr} {c0 : Value} {dd : Option Addr} {cd : ClassData} {sl : Array (Option Value)} {mA : Str → Option Value} {tl : List Value} : h.get? A = some { cls := c0, dict := dd, data := .cls cd, slots := sl } → h.Ns cd.ns mA → (∀ n ∈ qN, mA n = none) → TailC h tl → TailC h (.ref A :: tl)
theorem TailC.q {h : Heap} {tl : List Value} (T : TailC h tl) : OwnTailQ h bmV tl := by
  induction T with
  | base => exact .base
  | own hA hN hq _ ih => exact .own hA hN (fun n m => hq n (by
      have : n ∈ (["__init__", "__getattribute__", "__getattr__", "args"] : List Str) := m
      simp only [List.mem_cons, List.not_mem_nil, or_false] at this
      unfold qN
      simp only [List.mem_cons, List.not_mem_nil, or_false]
      rcases this with h | h | h | h
      · exact .inl h
      · exact .inr (.inl h)
      · exact .inr (.inr (.inl h))
      · exact .inr (.inr (.inr (.inl h))))) ih
theorem TailC.keeps {h h' : Heap} {tl : List Value} (T : TailC h tl) (k : ∀ b o, h.get? b = some o → h'.get? b = some o) : TailC h' tl := by
  induction T with
  | base => exact .base
  | own hA hN hq _ ih => exact .own (k _ _ hA) (hN.keeps k) hq ih
inductive XObj (h : Heap) (C : Addr) (bm : List Value) : Prop
  | mk (N : Addr) (nm q : Str) (bs : List Value) (hdct : Bool) (sn : List Str) (sub : List Value) (ab : Bool) (col : Option Bool) (dd : Option Addr) (k0 k1 k2 k3 k5 : Option Value) (mN : Str → Option Value)
      (hC : h.get? C = some (excClassObj nm q C N bs bm hdct sn sub ab col dd k0 k1 k2 k3 k5 "ValueError.__new__")) (hN : h.Ns N mN) (hq : ∀ n ∈ qN, mN n = none) : XObj h C bm
/-- the class at C; its bases' order is bm -/
structure XCls (h : Heap) (C : Addr) (bm : List Value) : Prop where
  obj : XObj h C bm
  tail : TailC h bm
theorem XCls.keeps {h h' : Heap} {C : Addr} {bm : List Value} (x : XCls h C bm) (k : ∀ b o, h.get? b = some o → h'.get? b = some o) : XCls h' C bm := by
  cases x.obj with
  | mk N nm q bs hdct sn sub ab col dd k0 k1 k2 k3 k5 mN hC hN hq => exact ⟨.mk N nm q bs hdct sn sub ab col dd k0 k1 k2 k3 k5 mN (k _ _ hC) (hN.keeps k) hq, x.tail.keeps k⟩
theorem lk_V_class : typeLookup (.type "ValueError") "__class__" = pure (some (.builtin "object.__class__")) := by rw [typeLookup_type, builtinLookup_eq_fast]; kernel_rfl

section
variable {prog : Program} {w : World} {A : Around} {E : Value → Shared → Prop} {h : Heap} {g : Array GenState} {d : Drawn} {t : Nat} {os : OsState} {a C : Addr} {o : Obj} {bm : List Value}

theorem tail_look {M : Model} {n : Str} {y : Option Value} {tl : List Value} {Q : Option Value → Shared → Prop} (hn : n ∈ qN) (T : TailC h tl) (hB : typeLookup (.type "ValueError") n = pure y) (hq : Q y ⟨h, g, d, t, os⟩) : wpAny M A (lookupAlong tl n) Q E ⟨h, g, d, t, os⟩ := by
  have hrest : lookupAlong bmV n = pure y := by rw [typeLookup_eq, F.attrBase_ValueError.mro] at hB; exact hB
  induction T with
  | base => rw [hrest]; exact wpAny_pure hq
  | own hA hN hni _ ih =>
    rw [lookupAlong_cons]
    refine wpAny_bind (wpAny_classOwn_cls hA hN ?_)
    rw [hni n hn]
    exact ih
theorem cls_look {M : Model} {n : Str} {y : Option Value} {Q : Option Value → Shared → Prop} (hn : n ∈ qN) (X : XCls h C bm) (hB : typeLookup (.type "ValueError") n = pure y) (hq : Q y ⟨h, g, d, t, os⟩) : wpAny M A (typeLookup (.ref C) n) Q E ⟨h, g, d, t, os⟩ := by
  obtain ⟨N, nm, q, bs, hdct, sn, sub, ab, col, dd, k0, k1, k2, k3, k5, mN, hC, hN, hm⟩ := X.obj
  rw [typeLookup_eq]
  refine wpAny_bind (wpAny_mroOf_exc hC ?_)
  rw [lookupAlong_cons]
  refine wpAny_bind (wpAny_classOwn_exc hC hN ?_)
  rw [hm n hn]
  exact tail_look hn X.tail hB hq
theorem cls_sub {M : Model} {base : Value} {Q : Bool → Shared → Prop} (X : XCls h C bm) (hq : Q ((Value.ref C :: bm).contains base) ⟨h, g, d, t, os⟩) : wpAny M A (isSubtype (.ref C) base) Q E ⟨h, g, d, t, os⟩ := by
  obtain ⟨N, nm, q, bs, hdct, sn, sub, ab, col, dd, k0, k1, k2, k3, k5, mN, hC, hN, hm⟩ := X.obj
  exact wpAny_isSubtype_exc hC hq
theorem tail_has {T : String} {b : Bool} {tl : List Value} (X : TailC h tl) (hb : bmV.contains (.type T) = b) : (Value.ref C :: tl).contains (.type T) = b := by
  rw [List.contains_cons, X.q.tail.hasType hb]; rfl
theorem has_obj : bmV.contains (.type "object") = true := by decide +kernel
theorem has_bexc : bmV.contains (.type "BaseException") = true := by decide +kernel
theorem has_val : bmV.contains (.type "ValueError") = true := by decide +kernel

theorem xc_get {R : Result → Shared → Prop} (X : XCls h C bm) (hx : h.get? a = some o) (hc : o.cls = .ref C) (hq : R (.ok (.ret (.ref C))) ⟨h, g, d, t, os⟩) :
    codeAny (model prog w) A (.call (.builtin "getset_descriptor.__get__") ⟨[.builtin "object.__class__", .ref a, .ref C], []⟩) R ⟨h, g, d, t, os⟩ := by
  have hT5 : (⟨h, g, d, t, os⟩ : Shared).TypeIs (.builtin "object.__class__") "getset_descriptor" := F.typeOf_object_class
  have hcB : (Value.ref C :: bm).contains (.type (".".intercalate ("object.__class__".cutAt '.').dropLast)) = true := by
    rw [F.owner_object_class]; exact tail_has X.tail has_obj
  refine codeAny_call_builtin F.slot_gs_get.plain F.entry_gs_get (F.slot_gs_get.check _ _ _ _ _ _ _ _ hT5 (F.args_gs_get _ _ _) ?_)
  repeat (any_goals (first | assumption | (with_reducible refine wpAny_loadPart_at hx ?_; rw [hc]) | (with_reducible refine cls_sub X ?_; rw [hcB]) | wp_step))
  refine ⟨Code.quiet_builtin _ (by decide +kernel), codeAny_builtin F.entry_object_class ?_⟩
  repeat (any_goals (first | assumption | (with_reducible refine wpAny_loadPart_at hx ?_; rw [hc]) | wp_step))

theorem xc_check {M : Model} {nameV : Value} {Q : Unit → Shared → Prop} (X : XCls h C bm) (hx : h.get? a = some o) (hc : o.cls = .ref C) (hq : Q () ⟨h, g, d, t, os⟩) : wpAny M A (checkBuiltinCall "BaseException.__getattribute__" ⟨[.ref a, nameV], []⟩) Q E ⟨h, g, d, t, os⟩ := by
  obtain ⟨N, nm, q, bs, hdct, sn, sub, ab, col, dd, k0, k1, k2, k3, k5, mN, hC, hN, hm⟩ := X.obj
  exact wpAny_check_ga_own F.attrBase_ValueError hC X.tail.q hx hc hq

theorem xc_entry {tk : Tok} {Q : Fin → Shared → Prop} (X : XCls h C bm) (hx : h.get? a = some o) (hc : o.cls = .ref C) (hq : Q (.done (.ret (.ref C))) ⟨h, g, d, t, os⟩) :
    wpAny (model prog w) A (Builtin.«object.__getattribute__» ⟨[.ref a, .str "__class__" tk], []⟩) Q E ⟨h, g, d, t, os⟩ := by
  have hT5 : (⟨h, g, d, t, os⟩ : Shared).TypeIs (.builtin "object.__class__") "getset_descriptor" := F.typeOf_object_class
  have f5 := F.typeOf_object_class
  have f6 := F.slot_gs_get.lookup
  have f7 := F.slot_gs_set.lookup
  have hmA : ("__class__" : Str) ∈ qN := .tail _ (.tail _ (.tail _ (.tail _ (.head _))))
  repeat (any_goals (first | assumption | (with_reducible refine wpAny_loadPart_at hx ?_; rw [hc]) | with_reducible refine cls_look hmA X lk_V_class ?_ | wp_step))
  refine xc_get X hx hc ?_
  repeat (any_goals (first | assumption | wp_step))

theorem xc_by {tk : Tok} {fill : Bool} {Q : Value → Shared → Prop} (X : XCls h C bm) (hx : h.get? a = some o) (hc : o.cls = .ref C) (hq : Q (.ref C) ⟨h, g, d, t, os⟩) :
    wpAny (model prog w) A (getAttrBy (.ref a) (.str "__class__" tk) fill) Q E ⟨h, g, d, t, os⟩ := by
  have f3 := F.attrBase_ValueError.ga.bind (.ref a)
  have hx0 : (false && onTheHeap (Value.builtin "BaseException.__getattribute__")) = false := rfl
  have hx2 : (Value.builtin "BaseException.__getattribute__" == Value.builtin "object.__getattribute__") = false := by decide +kernel
  have hx1 : (onTheHeap (Value.ref C) && Value.builtin "BaseException.__getattribute__" == Value.builtin "object.__getattribute__") = false := by rw [hx2]; rfl
  have hm1 : ("__getattribute__" : Str) ∈ qN := .tail _ (.head _)
  have hm2 : ("__getattr__" : Str) ∈ qN := .tail _ (.tail _ (.head _))
  repeat (any_goals (first | assumption | (with_reducible refine wpAny_loadPart_at hx ?_; rw [hc]) | with_reducible refine cls_look hm1 X F.attrBase_ValueError.ga.lookup ?_ | with_reducible refine cls_look hm2 X F.attrBase_ValueError.noGetattr ?_ | wp_step))
  refine codeAny_call_builtin F.attrBase_ValueError.ga.plain F.entry_bexc_ga (xc_check X hx hc (xc_entry X hx hc ?_))
  repeat (any_goals (first | assumption | wp_step))

theorem xc_attr {Q : Option Value → Shared → Prop} (X : XCls h C bm) (hx : h.get? a = some o) (hc : o.cls = .ref C) (hq : Q (some (.ref C)) ⟨h, g, d, t + 1, os⟩) : wpAny (model prog w) A (getAttr? (.ref a) "__class__") Q E ⟨h, g, d, t, os⟩ := by
  unfold getAttr? getAttrBy?
  repeat (any_goals (first | assumption | with_reducible apply xc_by X hx hc | wp_step))

theorem isiN_ref {D : Addr} {bmD : List Value} {b : Bool} {dep : Int} {tk : Tok} {Q : Fin → Shared → Prop} (X : XCls h C bm) (Y : XCls h D bmD) (hx : h.get? a = some o) (hc : o.cls = .ref C) (hb : (Value.ref C :: bm).contains (.ref D) = b) (hq : ∀ t', Q (.done (.ret (.bool b))) ⟨h, g, d, t', os⟩) :
    wpAny (model prog w) A (Builtin.«isinstance.nested» ⟨[.ref a, .ref D, .int dep tk], []⟩) Q E ⟨h, g, d, t, os⟩ := by
  obtain ⟨N, nm, q, bs, hdct, sn, sub, ab, col, dd, k0, k1, k2, k3, k5, mN, hC, _, _⟩ := X.obj
  obtain ⟨N', nm', q', bs', hdct', sn', sub', ab', col', dd', k0', k1', k2', k3', k5', mN', hD, _, _⟩ := Y.obj
  have hq0 := hq t
  have hq1 := hq (t + 1)
  by_cases he : (Value.ref C == Value.ref D) = true
  · have hb' : b = true := by rw [← hb, List.contains_cons]; rw [show (Value.ref D == Value.ref C) = true from by rw [beq_iff_eq] at he ⊢; exact he.symm]; rfl
    subst hb'
    repeat (any_goals (first | assumption | (with_reducible refine wpAny_loadPart_at hx ?_; rw [hc]) | wp_step))
  · have he' : (Value.ref C == Value.ref D) = false := by simpa using he
    cases b with
    | true => repeat (any_goals (first | assumption | (with_reducible refine wpAny_loadPart_at hx ?_; rw [hc]) | with_reducible refine wpAny_loadPart_at hD ?_ | (with_reducible refine cls_sub X ?_; rw [hb]) | wp_step))
    | false => repeat (any_goals (first | assumption | with_reducible apply xc_attr X hx hc | (with_reducible refine wpAny_loadPart_at hx ?_; rw [hc]) | with_reducible refine wpAny_loadPart_at hD ?_ | with_reducible refine wpAny_loadPart_at hC ?_ | (with_reducible refine cls_sub X ?_; rw [hb]) | wp_step))
theorem meta_V : typeOf (.type "ValueError") = pure (.type "type") := by
  show (pure (Value.type ((Manifest.find? "ValueError").elim "type" (·.metatype))) : Sem Value) = pure (.type "type")
  rw [show ((Manifest.find? "ValueError").elim "type" fun x => x.metatype) = "type" from by kernel_rfl]
theorem isiN_val {dep : Int} {tk : Tok} {Q : Fin → Shared → Prop} (X : XCls h C bm) (hx : h.get? a = some o) (hc : o.cls = .ref C) (hq : Q (.done (.ret (.bool true))) ⟨h, g, d, t, os⟩) :
    wpAny (model prog w) A (Builtin.«isinstance.nested» ⟨[.ref a, .type "ValueError", .int dep tk], []⟩) Q E ⟨h, g, d, t, os⟩ := by
  have hb := tail_has (C := C) X.tail has_val
  have hm := meta_V
  have he' : (Value.ref C == Value.type "ValueError") = false := by rfl
  repeat (any_goals (first | assumption | (with_reducible refine wpAny_loadPart_at hx ?_; rw [hc]) | (with_reducible refine cls_sub X ?_; rw [hb]) | wp_step))
theorem isiE_ref {s : Shared} {D : Addr} {bmD : List Value} {b : Bool} {Q : Value → Shared → Prop} (X : XCls s.heap C bm) (Y : XCls s.heap D bmD) (hx : s.heap.get? a = some o) (hc : o.cls = .ref C) (hb : (Value.ref C :: bm).contains (.ref D) = b) (hQ : ∀ tk, Q (.bool b) { s with toks := tk }) :
    wpAny (model prog w) A (call (.builtin "isinstance") [.ref a, .ref D]) Q E s :=
  call_isinstance (S := fun _ R s => (XCls s.heap C bm ∧ XCls s.heap D bmD ∧ s.heap.get? a = some o) ∧ ∀ tk, R (.ok (.ret (.bool b))) { s with toks := tk })
    (fun prog w A R s hs => isinstance_outer (by obtain ⟨h, g, d, t, os⟩ := s; obtain ⟨⟨X, Y, hx⟩, hq⟩ := hs; exact isiN_ref X Y hx hc hb fun t' => hq t') (by intro e; cases e)) ⟨⟨X, Y, hx⟩, hQ⟩
theorem isiE_val {s : Shared} {Q : Value → Shared → Prop} (X : XCls s.heap C bm) (hx : s.heap.get? a = some o) (hc : o.cls = .ref C) (hQ : ∀ tk, Q (.bool true) { s with toks := tk }) :
    wpAny (model prog w) A (call (.builtin "isinstance") [.ref a, .type "ValueError"]) Q E s :=
  call_isinstance (S := fun _ R s => (XCls s.heap C bm ∧ s.heap.get? a = some o) ∧ ∀ tk, R (.ok (.ret (.bool true))) { s with toks := tk })
    (fun prog w A R s hs => isinstance_outer (by obtain ⟨h, g, d, t, os⟩ := s; obtain ⟨⟨X, hx⟩, hq⟩ := hs; exact isiN_val X hx hc (hq t)) (by intro e; cases e)) ⟨⟨X, hx⟩, hQ⟩
end
end Mine

namespace Mine
open PySem PyProof.Rows PySem.Calls

/-- names of built-ins that the evaluator calls -/
noncomputable def bltNames : List Str := ["len", "range", "list", "tuple", "all", "int", "isinstance", "str", "bool", "dict", "sorted", "sum", "max", "ValueError", "enumerate"]

/-- what a def's table must be -/
noncomputable def fnOk (d : DefRec) : Bool :=
  decide (d.scope.kind = .function) && (!d.scope.isCoroutine && (!d.scope.isGenerator && ((d.params.args.all fun a => isSto d.scope a.arg) && ((d.scope.names.all fun y => decide (y.2 ≠ .free)) &&
    (decide ((d.scope.names.map (·.1)).Nodup) && decide ((d.params.args.map (·.arg)).Nodup))))))

structure Glb (C : Cfg) (p : Program) (loose : List Str) (mean : ExcName → Option Value) (mg mb : Str → Option Value) (h₀ : Heap) : Prop where
  top : Top p loose mean mg mb h₀
  fns : ∀ d ∈ C.fns, d ∈ recsOf p
  fok : ∀ d ∈ C.fns, fnOk d = true
  blt : ∀ x ∈ bltNames, mg x = none
  bang : ∀ d ∈ C.fns, mg (bang d.name) = none
  noBang : ∀ d ∈ C.fns, d.name.cps.back? ≠ some 33
  qu : ∀ d ∈ C.fns, mg (qn d.name) = none
  noQ : ∀ d ∈ C.fns, d.name.cps.back? ≠ some 63
  exc : ∀ x D, (x, D) ∈ C.exc → mg x = some (.ref D) ∧ ∃ bm, XCls h₀ D bm ∧ (∀ y D', (y, D') ∈ C.exc → (Value.ref D :: bm).contains (.ref D') = C.sub D y) ∧ C.sub D "ValueError" = true
  int : ∀ x i, C.gis.lookup x = some i → valOf p x = some (.int i)

structure Bud (A : Around) (n : Nat) : Prop where
  depth : A.depth + n < recursionLimit
  units : A.units + 3 * n + 200 < cLine
  hnd : A.handled = none

/-- the tables of the frames that are open -/
noncomputable def frs (A : Around) : List Addr := (A.frames.getD []).filterMap (·.frame)
/-- what is set aside is there; so are the frames' tables -/
structure Lv (A : Around) (X σ : List Addr) (h : Heap) : Prop where
  x : ∀ a ∈ X, ∃ o, h.get? a = some o
  f : ∀ a ∈ frs A, ∃ o, h.get? a = some o ∧ isDict o
  s : ∀ a ∈ frs A, a ∉ σ
theorem Lv.ext {A : Around} {own σ σ' X : List Addr} {h h' : Heap} (l : Lv A X σ h) (E : Ext own σ σ' h h') : Lv A X σ' h' :=
  ⟨fun a m => let ⟨o, e⟩ := l.x a m; let ⟨o', e', _⟩ := E.live a o e; ⟨o', e'⟩, fun a m => let ⟨o, e, d⟩ := l.f a m; let ⟨o', e', d'⟩ := E.live a o e; ⟨o', e', d' d⟩,
    fun a m q => (E.new a q).elim (l.s a m) fun n => by obtain ⟨o, e, _⟩ := l.f a m; rw [e] at n; cases n⟩
theorem Lv.keeps {A : Around} {X σ : List Addr} {h h' : Heap} (l : Lv A X σ h) (k : ∀ b o, h.get? b = some o → h'.get? b = some o) : Lv A X σ h' :=
  ⟨fun a m => let ⟨o, e⟩ := l.x a m; ⟨o, k _ _ e⟩, fun a m => let ⟨o, e, d⟩ := l.f a m; ⟨o, k _ _ e, d⟩, l.s⟩
theorem Lv.cons {A : Around} {X σ : List Addr} {h : Heap} {D : Addr} (l : Lv A X σ h) (d : ∃ o, h.get? D = some o) : Lv A (D :: X) σ h :=
  ⟨fun a m => (List.mem_cons.mp m).elim (fun q => q ▸ d) (l.x a), l.f, l.s⟩
/-- the tree `t` does what the evaluator says -/
noncomputable def Sim (prog : Program) (w : World) (h₀ : Heap) (A : Around) (env : Env) (sc : Scope) (ρ : Loc) (t : Sem Value) (H : HP) (r : R AV) (fr : Bool) : Prop :=
  ∀ v H', r = some (v, H') → ∀ (σ X : List Addr) (s : Shared) (Q E : Value → Shared → Prop), EnvOk h₀ env sc ρ σ X s.heap → InvH h₀ H σ X s.heap → Lv A X σ s.heap →
    (∀ cv σ' h' tk, Ext [] σ σ' s.heap h' → InvH h₀ H' σ' X h' → Cv h' σ' X v cv → (fr = true → ∀ xs a, v = .list xs → cv = .ref a → s.heap.get? a = none ∧ InvH h₀ H' σ' (a :: X) h') → Q cv { s with heap := h', toks := tk }) →
    wpAny (model prog w) A t Q E s

noncomputable def SimB (prog : Program) (w : World) (h₀ : Heap) (A : Around) (env : Env) (sc : Scope) (ρ : Loc) (t : Sem Bool) (H : HP) (r : R Bool) : Prop :=
  ∀ b H', r = some (b, H') → ∀ (σ X : List Addr) (s : Shared) (Q : Bool → Shared → Prop) (E : Value → Shared → Prop), EnvOk h₀ env sc ρ σ X s.heap → InvH h₀ H σ X s.heap → Lv A X σ s.heap →
    (∀ σ' h' tk, Ext [] σ σ' s.heap h' → InvH h₀ H' σ' X h' → Q b { s with heap := h', toks := tk }) → wpAny (model prog w) A t Q E s

theorem bnd_some {α β : Type} {r : R α} {f : α → HP → Option β} {x : β} (h : bnd r f = some x) : ∃ a H, r = some (a, H) ∧ f a H = some x := by
  unfold bnd at h
  split at h
  · exact ⟨_, _, rfl, h⟩
  · cases h
theorem lft_some {α : Type} {o : Option α} {H : HP} {x : α × HP} (h : lft o H = some x) : o = some x.1 ∧ x.2 = H := by
  unfold lft at h
  split at h
  · cases h; exact ⟨rfl, rfl⟩
  · cases h
theorem lft_eq {α : Type} {o : Option α} {H H' : HP} {a : α} (h : lft o H = some (a, H')) : o = some a ∧ H' = H := lft_some h

section
variable {prog : Program} {w : World} {h₀ : Heap} {A : Around} {env : Env} {sc : Scope} {ρ : Loc}

theorem Sim.weaken {t : Sem Value} {H : HP} {r : R AV} (h : Sim prog w h₀ A env sc ρ t H r true) : Sim prog w h₀ A env sc ρ t H r false :=
  fun v H' e σ X s Q E ok I hX k => h v H' e σ X s Q E ok I hX fun cv σ' h' tk x y z _ => k cv σ' h' tk x y z (fun q => nomatch q)

theorem xlive {A : Around} {σ σ' X : List Addr} {h h' : Heap} (hX : Lv A X σ h) (E : Ext [] σ σ' h h') : Lv A X σ' h' := hX.ext E

theorem Ext.none_back {own σ σ' : List Addr} {h h' : Heap} (E : Ext own σ σ' h h') {a : Addr} (n : h'.get? a = none) : h.get? a = none := by
  cases e : h.get? a with
  | none => rfl
  | some o => obtain ⟨o', e', _⟩ := E.live a o e; rw [n] at e'; cases e'

/-- the continuation of an expression -/
noncomputable def Kv (h₀ : Heap) (σ X : List Addr) (s : Shared) (H' : HP) (v : AV) (fr : Bool) (Q : Value → Shared → Prop) : Prop :=
  ∀ cv σ' h' tk, Ext [] σ σ' s.heap h' → InvH h₀ H' σ' X h' → Cv h' σ' X v cv → (fr = true → ∀ xs a, v = .list xs → cv = .ref a → s.heap.get? a = none ∧ InvH h₀ H' σ' (a :: X) h') → Q cv { s with heap := h', toks := tk }

theorem Kv.plain {σ σ' X : List Addr} {s : Shared} {H' : HP} {v : AV} {fr : Bool} {Q : Value → Shared → Prop} {h : Heap} {tk : Nat} (k : Kv h₀ σ X s H' v fr Q) (E : Ext [] σ σ' s.heap h) (I : InvH h₀ H' σ' X h) :
    KP σ' X { s with heap := h, toks := tk } v Q := fun cv h' tk' hk c f =>
  k cv σ' h' tk' (E.trans (Ext.of_keeps hk)) (I.keeps hk) c fun _ xs a ev ea => ⟨E.none_back (f xs a ev ea), (I.aside (f xs a ev ea)).keeps hk⟩
theorem Kv.here {σ σ' X : List Addr} {s : Shared} {H' : HP} {v : AV} {fr : Bool} {Q : Value → Shared → Prop} {h : Heap} {tk : Nat} {cv : Value} (k : Kv h₀ σ X s H' v fr Q) (E : Ext [] σ σ' s.heap h) (I : InvH h₀ H' σ' X h) (c : Cv h σ' X v cv) (hv : ∀ xs, v ≠ .list xs) :
    Q cv { s with heap := h, toks := tk } := k cv σ' h tk E I c fun _ xs _ ev => absurd ev (hv xs)

theorem sim_const {c : Const} {k : Nat} {pos : Pos} {H : HP} {fr : Bool} : Sim prog w h₀ A env sc ρ (eval (.Constant c k pos) env) H (lft (constV c) H) fr := by
  intro v H' e σ X s Q E ok I hX k
  obtain ⟨e1, rfl⟩ := lft_eq e
  cases c <;> simp only [constV, Option.some.injEq, reduceCtorEq] at e1
  · subst e1; exact fun _ _ _ => Kv.here (tk := s.toks) k (Ext.refl _ _ _) I .none (fun _ e => nomatch e)
  · subst e1; exact fun _ _ _ => Kv.here (tk := s.toks) k (Ext.refl _ _ _) I (.bool _) (fun _ e => nomatch e)
  · subst e1; exact wpAny_Constant_int (Kv.here (tk := s.toks + 1) k (Ext.refl _ _ _) I (.int _ _) (fun _ e => nomatch e))
  · subst e1; exact Constant_str (Kv.here (tk := s.toks + 1) k (Ext.refl _ _ _) I (.str _ _) (fun _ e => nomatch e))

theorem sim_name {x : Str} {pos : Pos} {H : HP} (hx : isLoc sc x = true) : Sim prog w h₀ A env sc ρ (eval (.Name x pos) env) H (lkp ρ x H) false := by
  intro v H' e σ X s Q E ok I hX k
  obtain ⟨e1, rfl⟩ := lft_eq e
  exact name_sound ok hx e1 fun cv c => k cv σ s.heap s.toks (Ext.refl _ _ _) I c (fun q => nomatch q)

theorem sim_bin {l r : Expr} {op : Operator} {pos : Pos} {fl fr : HP → R AV} {H : HP} (hl : ∀ H, Sim prog w h₀ A env sc ρ (eval l env) H (fl H) false) (hr : ∀ H, Sim prog w h₀ A env sc ρ (eval r env) H (fr H) false) :
    Sim prog w h₀ A env sc ρ (eval (.BinOp l op r pos) env) H (binR op fl fr H) true := by
  intro v H' e σ X s Q E ok I hX k
  obtain ⟨a, H1, e1, e⟩ := bnd_some e
  obtain ⟨b, H2, e2, e⟩ := bnd_some e
  obtain ⟨e3, rfl⟩ := lft_eq e
  refine wpAny_BinOp (hl H a H1 e1 σ X s _ E ok I hX fun ca σ1 h1 tk1 E1 I1 Ca _ => hr H1 b _ e2 σ1 X _ _ E (ok.ext E1) I1 (xlive hX E1) fun cb σ2 h2 tk2 E2 I2 Cb _ => ?_)
  exact bin_sound e3 I2 (xlive (xlive hX E1) E2).x (Ca.ext E2 NoData.nil) Cb (Kv.plain (s := s) k (E1.trans E2) I2)

theorem sim_notV {x : Expr} {pos : Pos} {H : HP} {r : R AV} {fr : Bool} (h : Sim prog w h₀ A env sc ρ (eval x env) H r false) : Sim prog w h₀ A env sc ρ (eval (.UnaryOp .Not x pos) env) H (notV r) fr := by
  intro v H' e σ X s Q E ok I hX k
  obtain ⟨a, H1, e1, e'⟩ := bnd_some e
  obtain ⟨b, H2, e2, e''⟩ := bnd_some e'
  obtain ⟨e3, rfl⟩ := lft_eq e2
  cases e''
  show wpAny _ _ (do let v ← eval x env; standAt pos; holding [v] (unaryOp .Not v)) _ _ _
  refine wpAny_bind (h a _ e1 σ X s _ E ok I hX fun ca σ1 h1 tk1 E1 I1 Ca _ => wpAny_bind (wpAny_standAt (wpAny_holding ?_)))
  rw [asBool_some e3] at Ca
  cases Ca
  unfold unaryOp
  refine wpAny_bind (wpAny_truthy_bool (wpAny_pure ?_))
  exact Kv.here (s := s) k E1 I1 (.bool _) (fun _ e => nomatch e)

theorem sim_neg {x : Expr} {pos : Pos} {H : HP} {r : R AV} {fr : Bool} (h : Sim prog w h₀ A env sc ρ (eval x env) H r false) : Sim prog w h₀ A env sc ρ (eval (.UnaryOp .USub x pos) env) H (negV r) fr := by
  intro v H' e σ X s Q E ok I hX k
  obtain ⟨a, H1, e1, e⟩ := bnd_some e
  obtain ⟨e3, rfl⟩ := lft_eq e
  show wpAny _ _ (do let v ← eval x env; standAt pos; holding [v] (unaryOp .USub v)) _ _ _
  refine wpAny_bind (h a _ e1 σ X s _ E ok I hX fun ca σ1 h1 tk1 E1 I1 Ca _ => wpAny_bind (wpAny_standAt (wpAny_holding ?_)))
  cases Ca <;> cases e3
  exact PySem.P.neg_int (Kv.here (s := s) k E1 I1 (.int _ _) (fun _ e => nomatch e))

/-- what kind of expression it is -/
inductive Vw (e : Expr) : Prop
  | nm (x : Str) (p : Pos) (h : e = .Name x p)
  | tu (es : List Expr) (n : Nat) (p : Pos) (h : e = .Tuple es n p)
  | ca (f : Expr) (as : List Expr) (ks : List Keyword) (p : Pos) (h : e = .Call f as ks p)
  | co (c : Const) (k : Nat) (p : Pos) (h : e = .Constant c k p)
  | no (h1 : nameOf e = none) (h2 : tupOf e = none) (h3 : callOf e = none) (h4 : constOf e = none)
theorem vw (e : Expr) : Vw e := by
  cases e <;> first | exact .no rfl rfl rfl rfl | exact .nm _ _ rfl | exact .tu _ _ _ rfl | exact .ca _ _ _ _ rfl | exact .co _ _ _ rfl
theorem nameOf_some {e : Expr} {x : Str} (h : nameOf e = some x) : ∃ p, e = .Name x p := by
  cases vw e with
  | nm y p q => subst q; cases h; exact ⟨p, rfl⟩
  | no h1 => rw [h1] at h; cases h
  | _ => rename_i q; subst q; cases h
theorem tupOf_some {e : Expr} {es : List Expr} (h : tupOf e = some es) : ∃ n p, e = .Tuple es n p := by
  cases vw e with
  | tu y n p q => subst q; cases h; exact ⟨n, p, rfl⟩
  | no _ h1 => rw [h1] at h; cases h
  | _ => rename_i q; subst q; cases h
/-! ### arguments -/
theorem star_cons {e : Expr} {es : List Expr} (h : noStar e = true) : starEach (e :: es) env = (false, eval e env) :: starEach es env := by
  cases e <;> first | rfl | exact Bool.noConfusion h
theorem star_or (e : Expr) : noStar e = true ∨ ∃ x p, e = .Starred x p := by
  cases e <;> first | exact .inl rfl | exact .inr ⟨_, _, rfl⟩
theorem star_no {f : Expr → HP → R AV} (hst : ∀ e p H, f (.Starred e p) H = none) {e : Expr} {H H' : HP} {v : AV} (e1 : f e H = some (v, H')) : noStar e = true :=
  (star_or e).elim id fun ⟨x, p, q⟩ => by rw [q, hst] at e1; cases e1
theorem sim_args {f : Expr → HP → R AV} {pos : Pos} : ∀ {es : List Expr}, (∀ e ∈ es, ∀ H, Sim prog w h₀ A env sc ρ (eval e env) H (f e H) false) → (∀ e p H, f (.Starred e p) H = none) →
    ∀ {H H' : HP} {vs : List AV}, evA (es.map fun e H => f e H) H = some (vs, H') → ∀ {σ X : List Addr} {s : Shared} {Q : List Value → Shared → Prop} {E : Value → Shared → Prop}, EnvOk h₀ env sc ρ σ X s.heap → InvH h₀ H σ X s.heap → Lv A X σ s.heap →
    (∀ cs σ' h' tk, Ext [] σ σ' s.heap h' → InvH h₀ H' σ' X h' → CvL h' σ' X vs cs → Q cs { s with heap := h', toks := tk }) → wpAny (model prog w) A (spliced (backTo pos (starEach es env))) Q E s
  | [], _, _, H, H', vs, e, σ, X, s, Q, E, ok, I, hX, k => by
    simp only [List.map_nil, evA, Option.some.injEq, Prod.mk.injEq] at e
    obtain ⟨rfl, rfl⟩ := e
    exact args_nil (k [] σ s.heap s.toks (Ext.refl _ _ _) I .nil)
  | e :: es, hs, hst, H, H', vs, ev, σ, X, s, Q, E, ok, I, hX, k => by
    simp only [List.map_cons, evA] at ev
    obtain ⟨v, H1, e1, ev⟩ := bnd_some ev
    obtain ⟨us, H2, e2, ev⟩ := bnd_some ev
    cases ev
    have he : starEach (e :: es) env = (false, eval e env) :: starEach es env := star_cons (star_no hst e1)
    refine args_cons (hs e List.mem_cons_self H v H1 e1 σ X s _ E ok I hX fun cv σ1 h1 tk1 E1 I1 C1 _ => ?_) he
    refine sim_args (fun e' m => hs e' (List.mem_cons_of_mem _ m)) hst e2 (ok.ext E1) I1 (xlive hX E1) fun cs σ2 h2 tk2 E2 I2 C2 => ?_
    exact k _ σ2 h2 tk2 (E1.trans E2) I2 (.cons (C1.ext E2 NoData.nil) C2)

theorem evA_length : ∀ {fs : List (HP → R AV)} {H H' : HP} {vs : List AV}, evA fs H = some (vs, H') → vs.length = fs.length
  | [], H, H', vs, e => by simp only [evA, Option.some.injEq, Prod.mk.injEq] at e; obtain ⟨rfl, _⟩ := e; rfl
  | f :: fs, H, H', vs, e => by
    simp only [evA] at e
    obtain ⟨v, H1, e1, e⟩ := bnd_some e
    obtain ⟨us, H2, e2, e⟩ := bnd_some e
    cases e
    simp [evA_length e2]

theorem sim_list {f : Expr → HP → R AV} {es : List Expr} {pos : Pos} {H : HP} (hs : ∀ e ∈ es, ∀ H, Sim prog w h₀ A env sc ρ (eval e env) H (f e H) false) (hst : ∀ e p H, f (.Starred e p) H = none) :
    Sim prog w h₀ A env sc ρ (eval (.List es pos) env) H (listD (es.map fun e H => f e H) H) true := by
  intro v H' e σ X s Q E ok I hX k
  unfold listD at e
  split at e
  · rename_i hlen
    obtain ⟨vs, H1, e1, e⟩ := bnd_some e
    cases e
    refine List_ (sim_args hs hst e1 ok I hX fun cs σ1 h1 tk1 E1 I1 C1 => ?_)
    have hl : vs.length ≤ sizeMax := by rw [evA_length e1]; exact hlen
    have hsz := sizeLine_ge
    refine wpAny_newObj_type ?_ (by show cs.toArray.size ≤ sizeLine; rw [List.size_toArray, C1.length]; lia)
    exact KP.newList (n := 0) (tk := tk1) I1 (xlive hX E1).x hl C1 (Kv.plain (s := s) k E1 I1)
  · cases e
theorem sim_tup {f : Expr → HP → R AV} {es : List Expr} {n : Nat} {pos : Pos} {H : HP} {fr : Bool} (hs : ∀ e ∈ es, ∀ H, Sim prog w h₀ A env sc ρ (eval e env) H (f e H) false) (hst : ∀ e p H, f (.Starred e p) H = none) :
    Sim prog w h₀ A env sc ρ (eval (.Tuple es n pos) env) H (tupD (es.map fun e H => f e H) H) fr := by
  intro v H' e σ X s Q E ok I hX k
  unfold tupD at e
  split at e
  · rename_i hlen
    obtain ⟨vs, H1, e1, e⟩ := bnd_some e
    cases e
    refine Tuple_ (sim_args hs hst e1 ok I hX fun cs σ1 h1 tk1 E1 I1 C1 => ?_)
    have hl : vs.length ≤ sizeMax := by rw [evA_length e1]; exact hlen
    have hsz := sizeLine_ge
    refine wpAny_newObj_type ?_ (by show cs.toArray.size ≤ sizeLine; rw [List.size_toArray, C1.length]; lia)
    exact KP.newTup (n := 0) (tk := tk1) I1 (xlive hX E1).x hl C1 (Kv.plain (s := s) k E1 I1)
  · cases e

/-! ### subscripts -/
theorem subscripted_index {i : Expr} (hi : ∀ a b c p, i ≠ .Slice a b c p) (o k : Value) : subscripted i false o k = operate [o, k] (getItem o k) := by
  cases i <;> first | rfl | exact absurd rfl (hi _ _ _ _)

theorem itemsOf_type {H : HP} {σ X : List Addr} {s : Shared} {o : AV} {co : Value} (I : InvH h₀ H σ X s.heap) (c : Cv s.heap σ X o co) {xs : List AV} (e : itemsOf H o = some xs) :
    ∃ T id, s.TypeIs co T ∧ typeLookup (.type T) "__getitem__" = pure (some (.builtin id)) := by
  obtain ⟨p, vs, n, rfl, hg, _, _⟩ := items_at I c e
  rcases hg with hg | hg
  · exact ⟨"list", _, ⟨_, hg, rfl⟩, slot_list_getitem.lookup⟩
  · exact ⟨"tuple", _, ⟨_, hg, rfl⟩, slot_tuple_getitem.lookup⟩

theorem sim_subI {o i : Expr} {pos : Pos} {fo fi : HP → R AV} {H : HP} (hi : ∀ a b c p, i ≠ .Slice a b c p) (ho : ∀ H, Sim prog w h₀ A env sc ρ (eval o env) H (fo H) false) (hk : ∀ H, Sim prog w h₀ A env sc ρ (eval i env) H (fi H) false) :
    Sim prog w h₀ A env sc ρ (eval (.Subscript o i pos) env) H (subI fo fi H) false := by
  intro v H' e σ X s Q E ok I hX k
  obtain ⟨a, H1, e1, e⟩ := bnd_some e
  obtain ⟨b, H2, e2, e⟩ := bnd_some e
  obtain ⟨e3, rfl⟩ := lft_eq e
  refine Subscript_ (ho H a H1 e1 σ X s _ E ok I hX fun ca σ1 h1 tk1 E1 I1 Ca _ => hk H1 b _ e2 σ1 X _ _ E (ok.ext E1) I1 (xlive hX E1) fun cb σ2 h2 tk2 E2 I2 Cb _ => ?_)
  have Ca2 := Ca.ext E2 NoData.nil
  have hitems : ∃ xs, itemsOf H' a = some xs := by
    unfold getIdx at e3
    split at e3
    · split at e3
      · rename_i h; exact ⟨_, h⟩
      · cases e3
    · cases e3
  obtain ⟨xs, hx⟩ := hitems
  obtain ⟨T, id, hT, hl⟩ := itemsOf_type (s := { s with heap := h2, toks := tk2 }) I2 Ca2 hx
  exact tail_any hT hl (getIdx_sound e3 I2 Ca2 Cb fun cv c => k cv σ2 h2 tk2 (E1.trans E2) I2 c (fun q => nomatch q)) (subscripted_index hi _ _)

theorem sim_part {e : Option Expr} {f : HP → R AV} (h : match e with | some e => ∀ H, Sim prog w h₀ A env sc ρ (eval e env) H (f H) false | none => f = noneE) (H : HP) : Sim prog w h₀ A env sc ρ (evalPart e env) H (f H) false := by
  cases e with
  | some e => exact h H
  | none =>
    simp only at h
    subst h
    intro v H' e σ X s Q E ok I hX k
    simp only [noneE, Option.some.injEq, Prod.mk.injEq] at e
    obtain ⟨rfl, rfl⟩ := e
    exact wpAny_pure (Kv.here (tk := s.toks) k (Ext.refl _ _ _) I .none (fun _ e => nomatch e))

theorem getSl_type {H : HP} {σ X : List Addr} {s : Shared} {o v : AV} {co : Value} {lo hi : Option Int} (I : InvH h₀ H σ X s.heap) (c : Cv s.heap σ X o co) (e : getSl H o lo hi = some v) :
    ∃ T id, s.TypeIs co T ∧ typeLookup (.type T) "__getitem__" = pure (some (.builtin id)) := by
  unfold getSl at e
  split at e
  · exact itemsOf_type I c (H := H) rfl
  · obtain ⟨xs, hx, _⟩ := Option.map_eq_some_iff.mp e
    obtain ⟨p, vs, n, rfl, hg, _, _⟩ := seqOf_at I c hx
    exact ⟨"list", _, ⟨_, hg, rfl⟩, slot_list_getitem.lookup⟩

theorem sim_subS {o : Expr} {lo hi : Option Expr} {p pos : Pos} {fo fa fb : HP → R AV} {H : HP} (ho : ∀ H, Sim prog w h₀ A env sc ρ (eval o env) H (fo H) false) (ha : ∀ H, Sim prog w h₀ A env sc ρ (evalPart lo env) H (fa H) false)
    (hb : ∀ H, Sim prog w h₀ A env sc ρ (evalPart hi env) H (fb H) false) : Sim prog w h₀ A env sc ρ (eval (.Subscript o (.Slice lo hi none p) pos) env) H (subS fo fa fb H) true := by
  intro v H' e σ X s Q E ok I hX k
  obtain ⟨a, H1, e1, g1⟩ := bnd_some e
  obtain ⟨b, H2, e2, g2⟩ := bnd_some g1
  obtain ⟨c, H3, e3, g3⟩ := bnd_some g2
  obtain ⟨x, H4, f4, g4⟩ := bnd_some g3
  obtain ⟨e4, q4⟩ := lft_eq f4
  obtain ⟨y, H5, f5, g5⟩ := bnd_some g4
  obtain ⟨e5, q5⟩ := lft_eq f5
  obtain ⟨e6, q6⟩ := lft_eq g5
  subst q4 q5 q6
  refine Subscript_ (ho H a H1 e1 σ X s _ E ok I hX fun ca σ1 h1 tk1 E1 I1 Ca _ => wpAny_Slice (ha H1 b H2 e2 σ1 X _ _ E (ok.ext E1) I1 (xlive hX E1) fun cb σ2 h2 tk2 E2 I2 Cb _ =>
    hb H2 c _ e3 σ2 X _ _ E ((ok.ext E1).ext E2) I2 (xlive (xlive hX E1) E2) fun cc σ3 h3 tk3 E3 I3 Cc _ => ?_))
  rw [evalPart_none]
  refine wpAny_pure ?_
  dsimp only
  have pa := part_of (s := { s with heap := h3, toks := tk3 }) (Cb.ext E3 NoData.nil) e4
  have pb := part_of (s := { s with heap := h3, toks := tk3 }) Cc e5
  have hk : ∀ b o, h3.get? b = some o → (h3.push { cls := .type "slice", data := .fields #[cb, cc, .none] }).get? b = some o := fun b o e => Heap.get?_push_of_some _ e
  have Ca3 := ((Ca.ext E2 NoData.nil).ext E3 NoData.nil).keeps hk
  have E123 := (E1.trans E2).trans E3
  have X3 : ∀ a ∈ X, ∃ o, (h3.push { cls := .type "slice", data := .fields #[cb, cc, .none] }).get? a = some o := fun a m => let ⟨o, e⟩ := (xlive (xlive (xlive hX E1) E2) E3).x a m; ⟨o, hk _ _ e⟩
  obtain ⟨T, id, hT, hl⟩ := getSl_type (s := { s with heap := h3.push { cls := .type "slice", data := .fields #[cb, cc, .none] }, toks := tk3 }) (I3.keeps hk) Ca3 e6
  exact tail_any hT hl (getSl_sound e6 (I3.keeps hk) X3 Ca3 (Heap.IsSliceOf.new ..) pa pb (Kv.plain (s := s) k (E123.trans (Ext.of_keeps hk)) (I3.keeps hk))) rfl
end
end Mine

namespace Mine
open PySem PyProof.Rows PySem.Calls

section
variable {prog : Program} {w : World} {h₀ : Heap} {A : Around} {env : Env} {sc : Scope} {ρ : Loc}

/-! ### comparisons -/
theorem marked_id (op : CmpOp) (e : Expr) (h : notSet e = true) : markedEach [op] [e] (evalEach [e] env) = evalEach [e] env := by
  have : behindInMarks op e = false := by cases e <;> first | rfl | exact Bool.noConfusion h
  show [markedBehindIn op e (eval e env)] = [eval e env]
  rw [markedBehindIn_of_false this]

theorem cmpA_some {f : Expr → HP → R AV} {left v : AV} {ops : List CmpOp} {es : List Expr} {H H' : HP} (e : cmpA left ops (es.map fun e H => f e H) H = some (v, H')) :
    ∃ op r b d, ops = [op] ∧ es = [r] ∧ f r H = some (b, H') ∧ cmpV op left b H' = some d ∧ v = .bool d := by
  unfold cmpA at e
  split at e
  case h_2 => cases e
  rename_i op
  match es, e with
  | [r], e =>
    obtain ⟨b, H1, e1, g1⟩ := bnd_some e
    obtain ⟨d, H2, e2, g2⟩ := bnd_some g1
    obtain ⟨e3, q⟩ := lft_eq e2
    cases g2
    subst q
    exact ⟨op, r, b, d, rfl, rfl, e1, e3, rfl⟩

theorem sim_cmp {l : Expr} {ops : List CmpOp} {rs : List Expr} {pos : Pos} {fl : HP → R AV} {f : Expr → HP → R AV} {H : HP} {fr : Bool} (hu : A.units + 100 < cLine) (hl : ∀ H, Sim prog w h₀ A env sc ρ (eval l env) H (fl H) false)
    (hs : ∀ e ∈ rs, ∀ H, Sim prog w h₀ A env sc ρ (eval e env) H (f e H) false) (hns : ∀ e ∈ rs, notSet e = true) :
    Sim prog w h₀ A env sc ρ (eval (.Compare l ops rs pos) env) H (bnd (fl H) fun a H => cmpA a ops (rs.map fun e H => f e H) H) fr := by
  intro v H' e σ X s Q E ok I hX k
  obtain ⟨a, H1, e1, g1⟩ := bnd_some e
  obtain ⟨op, r, b, d, rfl, rfl, e2, e3, rfl⟩ := cmpA_some g1
  show wpAny _ _ (do compareChain pos (← eval l env) [op] (markedEach [op] [r] (evalEach [r] env))) _ _ _
  rw [marked_id op r (hns r List.mem_cons_self)]
  refine wpAny_bind (hl H a H1 e1 σ X s _ E ok I hX fun ca σ1 h1 tk1 E1 I1 Ca _ => ?_)
  show wpAny _ _ (do let rv ← holding [ca] (eval r env); standAt pos; operate [ca, rv] (compareOp op ca rv)) _ _ _
  refine wpAny_bind (wpAny_holding (hs r List.mem_cons_self H1 b _ e2 σ1 X _ _ E (ok.ext E1) I1 (xlive hX E1) fun cb σ2 h2 tk2 E2 I2 Cb _ => wpAny_bind (wpAny_standAt (wpAny_operating ?_))))
  exact cmp_sound e3 I2 hu (Ca.ext E2 NoData.nil) Cb fun tk => Kv.here (s := s) k (E1.trans E2) I2 (.bool _) (fun _ e => nomatch e)

theorem wpAny_release' {M : Model} {E : Value → Shared → Prop} {s : Shared} {vs keep : List Value} {Q : Unit → Shared → Prop} (h : Q () s) : wpAny M A (release vs keep) Q E s := fun Γ p hΓ => by rw [Sem.wp_release]; exact h
theorem test_one {f : Expr → HP → R AV} {pos : Pos} {left v : AV} {cl : Value} {ops : List CmpOp} {es : List Expr} {H H' : HP} {σ X : List Addr} {s : Shared} {Q : Bool → Shared → Prop} {E : Value → Shared → Prop} (hu : A.units + 100 < cLine) (hs : ∀ e ∈ es, ∀ H, Sim prog w h₀ A env sc ρ (eval e env) H (f e H) false)
    (e : cmpA left ops (es.map fun e H => f e H) H = some (v, H')) (ok : EnvOk h₀ env sc ρ σ X s.heap) (I : InvH h₀ H σ X s.heap) (hX : Lv A X σ s.heap) (c : Cv s.heap σ X left cl)
    (k : ∀ b σ' h' tk, v = .bool b → Ext [] σ σ' s.heap h' → InvH h₀ H' σ' X h' → Q b { s with heap := h', toks := tk }) : wpAny (model prog w) A (testChain pos cl ops (evalEach es env)) Q E s := by
  obtain ⟨op, r, b, d, rfl, rfl, e2, e3, rfl⟩ := cmpA_some e
  show wpAny _ _ (do let rv ← holding [cl] (eval r env); standAt pos; let c ← operate [cl, rv] (compareOp op cl rv); holding [c] (truthy c)) _ _ _
  refine wpAny_bind (wpAny_holding (hs r List.mem_cons_self H b _ e2 σ X _ _ E ok I hX fun cb σ2 h2 tk2 E2 I2 Cb _ => wpAny_bind (wpAny_standAt (wpAny_bind (wpAny_operating ?_)))))
  exact cmp_sound e3 I2 hu (c.ext E2 NoData.nil) Cb fun tk => wpAny_holding (wpAny_truthy_bool (k _ σ2 h2 tk rfl E2 I2))
theorem marked_all : ∀ (ops : List CmpOp) (es : List Expr), (∀ e ∈ es, notSet e = true) → markedEach ops es (evalEach es env) = evalEach es env
  | [], [], _ => rfl
  | [], _ :: _, _ => by simp [markedEach]
  | _ :: _, [], _ => by simp [markedEach, evalEach]
  | [op], [e], h => marked_id op e (h e List.mem_cons_self)
  | [op], e :: e' :: es, h => by
    have := marked_all [] (e' :: es) (fun x m => h x (List.mem_cons_of_mem _ m))
    simp only [evalEach, markedEach] at this ⊢
  | op :: op' :: ops, e :: es, h => by
    have := marked_all (op' :: ops) es (fun x m => h x (List.mem_cons_of_mem _ m))
    simp only [evalEach, markedEach] at this ⊢
    rw [this]

theorem simB_cmp {l : Expr} {ops : List CmpOp} {rs : List Expr} {pos : Pos} {fl : HP → R AV} {f : Expr → HP → R AV} {H : HP} {whole : Sem Value} (hu : A.units + 100 < cLine) (hl : ∀ H, Sim prog w h₀ A env sc ρ (eval l env) H (fl H) false)
    (hs : ∀ e ∈ rs, ∀ H, Sim prog w h₀ A env sc ρ (eval e env) H (f e H) false) (hns : ∀ e ∈ rs, notSet e = true) :
    SimB prog w h₀ A env sc ρ (isTrue (.Compare l ops rs pos) env whole) H (tob (bnd (fl H) fun a H => cmpA2 a ops (rs.map fun e H => f e H) H)) := by
  intro v H' e σ X s Q E ok I hX k
  obtain ⟨u, H0, e0, g0⟩ := bnd_some e
  obtain ⟨q1, q2⟩ := lft_eq g0
  subst q2
  obtain ⟨a, H1, e1, g1⟩ := bnd_some e0
  show wpAny _ _ (do testChain pos (← eval l env) ops (markedEach ops rs (evalEach rs env))) _ _ _
  rw [marked_all ops rs hns]
  refine wpAny_bind (hl H a H1 e1 σ X s _ E ok I hX fun ca σ1 h1 tk1 E1 I1 Ca _ => ?_)
  have fin : ∀ b σ' h' tk, u = .bool b → Ext [] σ σ' s.heap h' → InvH h₀ H' σ' X h' → Q b { s with heap := h', toks := tk } := fun b σ' h' tk eu E2 I2 => by
    subst eu; cases q1; exact k σ' h' tk E2 I2
  unfold cmpA2 at g1
  split at g1
  · rename_i op op'
    match rs, hs, hns, g1 with
    | [r, r'], hs, hns, g1 =>
      obtain ⟨b, H2, e2, g2⟩ := bnd_some g1
      obtain ⟨d, H3, e3, g3⟩ := bnd_some g2
      obtain ⟨e4, q⟩ := lft_eq e3
      subst q
      show wpAny _ _ (do let rv ← holding [ca] (eval r env); standAt pos; let c ← holding [ca, rv] (compareOp op ca rv); release [ca, rv] [c]; if ← holding [c, rv] (truthy c) then testChain pos rv [op'] (evalEach [r'] env) else pure false) _ _ _
      refine wpAny_bind (wpAny_holding (hs r List.mem_cons_self H1 b _ e2 σ1 X _ _ E (ok.ext E1) I1 (xlive hX E1) fun cb σ2 h2 tk2 E2 I2 Cb _ => wpAny_bind (wpAny_standAt (wpAny_bind (wpAny_holding ?_)))))
      refine cmp_sound e4 I2 hu (Ca.ext E2 NoData.nil) Cb fun tk2 => ?_
      refine wpAny_bind (wpAny_release' (wpAny_bind (wpAny_holding (wpAny_truthy_bool ?_))))
      cases d with
      | true =>
        simp only [if_true]
        exact test_one (es := [r']) hu (fun x m => hs x (List.mem_cons_of_mem _ m)) g3 ((ok.ext E1).ext E2) I2 (xlive (xlive hX E1) E2) Cb fun z σ3 h3 tk3 ez E3 I3 => fin z σ3 h3 tk3 ez ((E1.trans E2).trans E3) I3
      | false =>
        cases g3
        simp only [Bool.false_eq_true, if_false]
        exact wpAny_pure (fin false σ2 h2 tk2 rfl (E1.trans E2) I2)
    | [], _, _, g1 => cases g1
    | [_], _, _, g1 => cases g1
    | _ :: _ :: _ :: _, _, _, g1 => cases g1
  · exact test_one hu hs g1 (ok.ext E1) I1 (xlive hX E1) Ca fun z σ3 h3 tk3 ez E3 I3 => fin z σ3 h3 tk3 ez (E1.trans E3) I3

theorem cv_bool {h : Heap} {σ X : List Addr} {a : AV} {c : Value} {b : Bool} (C : Cv h σ X a c) (e : asBool a = some b) : a = .bool b ∧ c = .bool b := by
  have := asBool_some e
  subst this
  cases C
  exact ⟨rfl, rfl⟩

/-! ### and, or, not -/
theorem sim_boolV {f : Expr → HP → R AV} {op : BoolOp} {pos : Pos} : ∀ {es : List Expr}, (∀ e ∈ es, ∀ H, Sim prog w h₀ A env sc ρ (eval e env) H (f e H) false) → ∀ {H : HP}, Sim prog w h₀ A env sc ρ (boolOp pos op (evalEach es env)) H (boolV op (es.map fun e H => f e H) H) false
  | [], _, H => by intro v H' e; simp [boolV] at e
  | [x], hs, H => by
    have := hs x List.mem_cons_self H
    exact this
  | x :: y :: es, hs, H => by
    intro v H' e σ X s Q E ok I hX k
    simp only [List.map_cons, boolV] at e
    obtain ⟨a, H1, e1, g1⟩ := bnd_some e
    obtain ⟨b, H2, e2, g2⟩ := bnd_some g1
    obtain ⟨q1, q2⟩ := lft_eq e2
    subst q2
    show wpAny _ _ (do let v ← eval x env; standAt pos; let t ← holding [v] (truthy v); match op, t with | .And, false | .Or, true => pure v | _, _ => boolOp pos op (evalEach (y :: es) env)) _ _ _
    refine wpAny_bind (hs x List.mem_cons_self H a _ e1 σ X s _ E ok I hX fun ca σ1 h1 tk1 E1 I1 Ca _ => wpAny_bind (wpAny_standAt (wpAny_bind (wpAny_holding ?_))))
    obtain ⟨rfl, rfl⟩ := cv_bool Ca q1
    refine wpAny_truthy_bool ?_
    have rest : boolV op ((y :: es).map fun e H => f e H) H2 = some (v, H') → wpAny (model prog w) A (boolOp pos op (evalEach (y :: es) env)) Q E { s with heap := h1, toks := tk1 } := fun g =>
      sim_boolV (es := y :: es) (fun z m => hs z (List.mem_cons_of_mem _ m)) v H' g σ1 X _ Q E (ok.ext E1) I1 (xlive hX E1) fun cv σ2 h2 tk2 E2 I2 C2 fz => k cv σ2 h2 tk2 (E1.trans E2) I2 C2 (fun q => nomatch q)
    cases op with
    | And =>
      cases b with
      | true => exact rest g2
      | false => cases g2; exact wpAny_pure (Kv.here (s := s) k E1 I1 (.bool _) (fun _ e => nomatch e))
    | Or =>
      cases b with
      | true => cases g2; exact wpAny_pure (Kv.here (s := s) k E1 I1 (.bool _) (fun _ e => nomatch e))
      | false => exact rest g2

theorem simB_boolB {f : Expr → HP → R Bool} {op : BoolOp} : ∀ {es : List Expr}, (∀ e ∈ es, ∀ H, SimB prog w h₀ A env sc ρ (isTrue e env (eval e env)) H (f e H)) → ∀ {H : HP}, SimB prog w h₀ A env sc ρ (allTrue op es env) H (boolB op (es.map fun e H => f e H) H)
  | [], _, H => by
    intro v H' e σ X s Q E ok I hX k
    simp only [List.map_nil, boolB, Option.some.injEq, Prod.mk.injEq] at e
    obtain ⟨rfl, rfl⟩ := e
    show wpAny _ _ (pure (op == .And)) _ _ _
    refine wpAny_pure ?_
    have := k σ s.heap s.toks (Ext.refl _ _ _) I
    cases op <;> exact this
  | x :: es, hs, H => by
    intro v H' e σ X s Q E ok I hX k
    simp only [List.map_cons, boolB] at e
    obtain ⟨b, H1, e1, g1⟩ := bnd_some e
    show wpAny _ _ (do match op, ← isTrue x env (eval x env) with | .And, false => pure false | .Or, true => pure true | _, _ => allTrue op es env) _ _ _
    refine wpAny_bind (hs x List.mem_cons_self H b H1 e1 σ X s _ E ok I hX fun σ1 h1 tk1 E1 I1 => ?_)
    have rest : boolB op (es.map fun e H => f e H) H1 = some (v, H') → wpAny (model prog w) A (allTrue op es env) Q E { s with heap := h1, toks := tk1 } := fun g =>
      simB_boolB (fun z m => hs z (List.mem_cons_of_mem _ m)) v H' g σ1 X _ Q E (ok.ext E1) I1 (xlive hX E1) fun σ2 h2 tk2 E2 I2 => k σ2 h2 tk2 (E1.trans E2) I2
    cases op with
    | And =>
      cases b with
      | true => exact rest g1
      | false => cases g1; exact wpAny_pure (k σ1 h1 tk1 E1 I1)
    | Or =>
      cases b with
      | true => cases g1; exact wpAny_pure (k σ1 h1 tk1 E1 I1)
      | false => exact rest g1

theorem simB_not {x : Expr} {pos : Pos} {H : HP} {r : R Bool} {whole : Sem Value} (h : SimB prog w h₀ A env sc ρ (isTrue x env (eval x env)) H r) : SimB prog w h₀ A env sc ρ (isTrue (.UnaryOp .Not x pos) env whole) H (notB r) := by
  intro v H' e σ X s Q E ok I hX k
  obtain ⟨b, H1, e1, g1⟩ := bnd_some e
  cases g1
  show wpAny _ _ (do return !(← isTrue x env (eval x env))) _ _ _
  exact wpAny_bind (h b _ e1 σ X s _ E ok I hX fun σ1 h1 tk1 E1 I1 => wpAny_pure (k σ1 h1 tk1 E1 I1))

theorem simB_plain {e : Expr} {H : HP} {r : R AV} (he : isTrue e env (eval e env) = (do let v ← eval e env; standAt e.pos; holding [v] (truthy v))) (h : Sim prog w h₀ A env sc ρ (eval e env) H r false) :
    SimB prog w h₀ A env sc ρ (isTrue e env (eval e env)) H (tob r) := by
  intro v H' ev σ X s Q E ok I hX k
  obtain ⟨a, H1, e1, g1⟩ := bnd_some ev
  obtain ⟨q1, q2⟩ := lft_eq g1
  subst q2
  rw [he]
  refine wpAny_bind (h a _ e1 σ X s _ E ok I hX fun ca σ1 h1 tk1 E1 I1 Ca _ => wpAny_bind (wpAny_standAt (wpAny_holding ?_)))
  obtain ⟨rfl, rfl⟩ := cv_bool Ca q1
  exact wpAny_truthy_bool (k σ1 h1 tk1 E1 I1)
end
end Mine

namespace Mine
open PySem PyProof.Rows PySem.Calls

/-- calls of the def g do what Φ says of the name f -/
noncomputable def PhiAt (prog : Program) (w : World) (h₀ : Heap) (mg : Str → Option Value) (A : Around) (Φ : Phi) (f g : Str) : Prop :=
  ∀ (base : Nat) (vs : List AV) (H : HP) (v : AV) (H' : HP), Φ base f vs H = some (v, H') → ∀ (fa : Addr), mg g = some (.ref fa) → ∀ (σ X : List Addr) (s : Shared) (cs : List Value) (Q E : Value → Shared → Prop),
    InvH h₀ H σ X s.heap → Lv A X σ s.heap → CvL s.heap σ X vs cs →
    (∀ cv σ' h' tk, Ext [] σ σ' s.heap h' → InvH h₀ H' σ' X h' → Cv h' σ' X v cv → Q cv { s with heap := h', toks := tk }) → wpAny (model prog w) A (call (.ref fa) cs) Q E s
/-- calls of the text's defs do what Φ says -/
noncomputable def PhiOk (prog : Program) (w : World) (h₀ : Heap) (mg : Str → Option Value) (A : Around) (Φ : Phi) : Prop := ∀ f, PhiAt prog w h₀ mg A Φ f f
/-- so do calls inside a handler -/
noncomputable def PhiQ (prog : Program) (w : World) (h₀ : Heap) (mg : Str → Option Value) (A : Around) (Φ : Phi) : Prop := ∀ f, PhiAt prog w h₀ mg A Φ (qn f) f
noncomputable def PhiQS (prog : Program) (w : World) (h₀ : Heap) (mg : Str → Option Value) (A : Around) (Φ : Phi) : Prop := PhiQ prog w h₀ mg A Φ ∧ ∀ e : Value, PhiQ prog w h₀ mg (A.mark (some e)) Φ
theorem PhiQS.mark {prog : Program} {w : World} {h₀ : Heap} {mg : Str → Option Value} {A : Around} {Φ : Phi} (x : PhiQS prog w h₀ mg A Φ) (e : Value) : PhiQS prog w h₀ mg (A.mark (some e)) Φ := ⟨x.2 e, fun e' => x.2 e'⟩

theorem oddName_debug {x : Str} (h : oddName x = false) : (x == ("__debug__" : Str)) = false := by
  unfold oddName at h
  exact (Bool.or_eq_false_iff.mp h).1

section
variable {prog : Program} {w : World} {h₀ : Heap} {A : Around} {env : Env} {sc : Scope} {ρ : Loc}
  {C : Cfg} {p : Program} {loose : List Str} {mean : ExcName → Option Value} {mg mb : Str → Option Value}

theorem glob_kind {x : Str} {σ X : List Addr} {h : Heap} (ok : EnvOk h₀ env sc ρ σ X h) (hx : isGlob sc x = true) : env.kindOf x = some .globalImplicit ∧ (x == ("__debug__" : Str)) = false := by
  unfold isGlob at hx
  split at hx
  · rename_i e; exact ⟨ok.glb x e, oddName_debug (by simpa using hx)⟩
  · cases hx

theorem args_of {f : Expr → HP → R AV} {pos : Pos} {es : List Expr} {fv : Value} (hs : ∀ e ∈ es, ∀ H, Sim prog w h₀ A env sc ρ (eval e env) H (f e H) false) (hst : ∀ e p H, f (.Starred e p) H = none)
    {H H' : HP} {vs : List AV} (ev : evA (es.map fun e H => f e H) H = some (vs, H')) {σ X : List Addr} {s : Shared} {Q : Args → Shared → Prop} {E : Value → Shared → Prop} (ok : EnvOk h₀ env sc ρ σ X s.heap) (I : InvH h₀ H σ X s.heap)
    (hX : Lv A X σ s.heap) (k : ∀ cs σ' h' tk, Ext [] σ σ' s.heap h' → InvH h₀ H' σ' X h' → CvL h' σ' X vs cs → Q ⟨cs, []⟩ { s with heap := h', toks := tk }) :
    wpAny (model prog w) A (evalArgs fv true (backTo pos (starEach es env)) []) Q E s ∧ (backTo pos (starEach es env)).any (·.1) = false := by
  cases es with
  | nil =>
    simp only [List.map_nil, evA, Option.some.injEq, Prod.mk.injEq] at ev
    obtain ⟨rfl, rfl⟩ := ev
    exact ⟨PyProof.Rows.evalArgs_none (k [] σ s.heap s.toks (Ext.refl _ _ _) I .nil), rfl⟩
  | cons e es =>
    have stars : ∀ {es : List Expr} {H H' : HP} {vs : List AV}, evA (es.map fun e H => f e H) H = some (vs, H') → (backTo pos (starEach es env)).any (·.1) = false := by
      intro es
      induction es with
      | nil => intro _ _ _ _; rfl
      | cons e es ih =>
        intro H H' vs ev
        simp only [List.map_cons, evA] at ev
        obtain ⟨v, H1, e1, g1⟩ := bnd_some ev
        obtain ⟨us, H2, e2, _⟩ := bnd_some g1
        have he : starEach (e :: es) env = (false, eval e env) :: starEach es env := star_cons (star_no hst e1)
        rw [he]
        show (false || (backTo pos (starEach es env)).any (·.1)) = false
        rw [ih e2]; rfl
    refine ⟨?_, stars ev⟩
    have ev' := ev
    simp only [List.map_cons, evA] at ev
    obtain ⟨v, H1, e1, g1⟩ := bnd_some ev
    have he : starEach (e :: es) env = (false, eval e env) :: starEach es env := star_cons (star_no hst e1)
    have := sim_args (pos := pos) hs hst ev' (Q := fun vs s' => Q ⟨vs, []⟩ s') (E := E) ok I hX k
    rw [he] at this ⊢
    exact evalArgs_plain this

theorem call_form {g : Str} {gp : Pos} {args : List Expr} {pos : Pos} : eval (.Call (.Name g gp) args [] pos) env = (do callWith pos (← eval (.Name g gp) env) [] (backTo pos (starEach args env)) (backToKw pos (keywordEach [] env))) := rfl

theorem sim_callP {f : Expr → HP → R AV} {Φ : Phi} {base : Nat} {g g' : Str} {gp pos : Pos} {es : List Expr} {d : DefRec} {H : HP} (G : Glb C p loose mean mg mb h₀) (hΦ : PhiAt prog w h₀ mg A Φ g' g) (hg : isGlob sc g = true) (hd : fnNames C g = some d)
    (hs : ∀ e ∈ es, ∀ H, Sim prog w h₀ A env sc ρ (eval e env) H (f e H) false) (hst : ∀ e p H, f (.Starred e p) H = none) :
    Sim prog w h₀ A env sc ρ (eval (.Call (.Name g gp) es [] pos) env) H (callP Φ base g' (es.map fun e H => f e H) H) false := by
  intro v H' e σ X s Q E ok I hX k
  obtain ⟨vs, H1, e1, g1⟩ := bnd_some e
  obtain ⟨hk, hdb⟩ := glob_kind ok hg
  have hmem : d ∈ C.fns := List.mem_of_find?_eq_some hd
  have hname : d.name = g := by
    have := List.find?_some (p := fun d : DefRec => decide (d.name = g)) hd
    exact of_decide_eq_true this
  obtain ⟨fa, o, pm, code, doc, hmg, ho, hdat, hcd⟩ := G.top.fn d (G.fns d hmem)
  rw [hname] at hmg
  have hgl : s.heap.Ns env.globals mg := by rw [ok.gl]; exact G.top.g.keeps I.keep
  refine Call_ (Name_function_global ok.kind hk (loadGlobal_global hgl hmg ?_) hdb) call_form
  obtain ⟨ha, hp⟩ := args_of (pos := pos) (fv := .ref fa) hs hst e1 (Q := fun x s₁ => (s₁.heap.get? fa = some o ∧ o.data = .func (docDef d.name d.params d.body d.scope pm code doc)) ∧ wpAny (model prog w) A (call (.ref fa) ([] ++ x.pos) x.kw) Q E s₁) (E := E) ok I hX (fun cs σ1 h1 tk1 E1 I1 C1 => ⟨⟨I1.keep _ _ ho, hdat⟩, by
    refine hΦ base vs H1 v H' g1 fa hmg σ1 X _ cs Q E I1 (xlive hX E1) C1 fun cv σ2 h2 tk2 E2 I2 C2 => k cv σ2 h2 tk2 (E1.trans E2) I2 C2 (fun q => nomatch q)⟩)
  exact callWith_function ha

theorem blt_load {x : Str} {v : Value} {gp : Pos} {σ X : List Addr} {s : Shared} {H : HP} {Q E : Value → Shared → Prop} (G : Glb C p loose mean mg mb h₀) (ok : EnvOk h₀ env sc ρ σ X s.heap) (I : InvH h₀ H σ X s.heap) (hg : isGlob sc x = true) (hx : x ∈ bltNames)
    (hv : bootBuiltins x = some v) (hQ : Q v s) : wpAny (model prog w) A (eval (.Name x gp) env) Q E s := by
  obtain ⟨hk, hdb⟩ := glob_kind ok hg
  have hgl : s.heap.Ns env.globals mg := by rw [ok.gl]; exact G.top.g.keeps I.keep
  have hbl : s.heap.Ns env.builtins mb := by rw [ok.bl]; exact G.top.b.keeps I.keep
  refine Name_function_global ok.kind hk (loadGlobal_builtin hgl (G.blt x hx) hbl ?_ hQ) hdb
  rw [G.top.builtins x ?_]
  · exact hv
  · intro e
    subst e
    revert hx
    decide +kernel

theorem bf_mem {g : Str} {b : BF} (h : bfOf g = some b) : g ∈ bltNames ∧ bootBuiltins g = some (bfV b) := by
  unfold bfOf at h
  repeat' split at h
  all_goals (try cases h)
  all_goals (rename_i e; subst e; exact ⟨by decide +kernel, by decide +kernel⟩)

theorem call_builtin_or_type {b : BF} {pos : Pos} {args : List (Bool × Sem Value)} {s : Shared} {Q E : Value → Shared → Prop} (hp : args.any (·.1) = false)
    (h : wpAny (model prog w) A (evalArgs (bfV b) true args []) (fun a s₁ => wpAny (model prog w) A (call (bfV b) a.pos a.kw) Q E s₁) E s) : wpAny (model prog w) A (callWith pos (bfV b) [] args []) Q E s := by
  cases b
  · exact callWith_builtin (first := []) hp h
  · exact PySem.callWith_type (first := []) hp h
  · exact PySem.callWith_type (first := []) hp h
  · exact callWith_builtin (first := []) hp h

theorem sim_callB {f : Expr → HP → R AV} {g : Str} {gp pos : Pos} {es : List Expr} {H : HP} (G : Glb C p loose mean mg mb h₀) (hh : A.handled = none) (hg : isGlob sc g = true)
    (hs : ∀ e ∈ es, ∀ H, Sim prog w h₀ A env sc ρ (eval e env) H (f e H) false) (hst : ∀ e p H, f (.Starred e p) H = none) :
    Sim prog w h₀ A env sc ρ (eval (.Call (.Name g gp) es [] pos) env) H (callBR g (es.map fun e H => f e H) H) true := by
  intro v H' e σ X s Q E ok I hX k
  obtain ⟨vs, H1, e1, g1⟩ := bnd_some e
  obtain ⟨e2, q2⟩ := lft_eq g1
  subst q2
  unfold callB at e2
  split at e2
  · rename_i b hb
    obtain ⟨hm, hv⟩ := bf_mem hb
    refine Call_ (blt_load G ok I hg hm hv ?_) call_form
    obtain ⟨ha, hp⟩ := args_of (pos := pos) (fv := bfV b) hs hst e1 (Q := fun x s₁ => wpAny (model prog w) A (call (bfV b) x.pos x.kw) Q E s₁) (E := E) ok I hX (fun cs σ1 h1 tk1 E1 I1 C1 =>
      callBF_sound e2 I1 (xlive hX E1).x C1 hh (Kv.plain (s := s) k E1 I1))
    exact call_builtin_or_type hp ha
  · cases e2

theorem ty_mem {x : Str} {t : Ty} (h : tyOf x = some t) : x ∈ bltNames ∧ bootBuiltins x = some (.type (tyN t)) := by
  unfold tyOf at h
  repeat' split at h
  all_goals (try cases h)
  all_goals (rename_i e; subst e; exact ⟨by decide +kernel, by decide +kernel⟩)

theorem tyOne_name {t : Expr} {y : Ty} (h : tyOne sc t = some y) : ∃ n p, t = .Name n p ∧ isGlob sc n = true ∧ tyOf n = some y := by
  unfold tyOne at h
  split at h
  case h_2 => cases h
  rename_i n hn
  obtain ⟨q, rfl⟩ := nameOf_some hn
  split at h
  · rename_i hg; exact ⟨_, _, rfl, hg, h⟩
  · cases h

theorem sim_isi {x t : Expr} {gp pos : Pos} {ts : List Ty} {r : R AV} {H : HP} {fr : Bool} {g : Str} (G : Glb C p loose mean mg mb h₀) (hgi : g = "isinstance") (hg : isGlob sc g = true) (ht : tyNames sc t = some ts) (hxs : noStar x = true)
    (hx : Sim prog w h₀ A env sc ρ (eval x env) H r false) : Sim prog w h₀ A env sc ρ (eval (.Call (.Name g gp) [x, t] [] pos) env) H (isR ts r) fr := by
  intro v H' e σ X s Q E ok I hX k
  obtain ⟨a, H1, e1, g1⟩ := bnd_some e
  obtain ⟨b, H2, e2, g2⟩ := bnd_some g1
  obtain ⟨e3, q3⟩ := lft_eq e2
  subst q3
  cases g2
  subst hgi
  refine Call_ (blt_load G ok I hg (v := .builtin "isinstance") (by decide +kernel) (by decide +kernel) ?_) call_form
  have he : starEach [x, t] env = (false, eval x env) :: starEach [t] env := star_cons hxs
  have he2 : starEach [t] env = [(false, eval t env)] := star_cons ((star_or t).elim id fun ⟨_, _, q⟩ => by rw [q] at ht; cases ht)
  refine callWith_builtin (first := []) (by rw [he, he2]; rfl) ?_
  have fin : ∀ (ca : Value) (σ1 : List Addr) (h1 : Heap) (ct : Value) (h2 : Heap) (tk2 : Nat), Ext [] σ σ1 s.heap h1 → InvH h₀ H' σ1 X h1 → Cv h1 σ1 X a ca → (∀ b o, h1.get? b = some o → h2.get? b = some o) →
      ((∃ t', ts = [t'] ∧ ct = .type (tyN t')) ∨ (∃ tp, ct = .ref tp ∧ h2.get? tp = some (tupO (ts.map fun t => .type (tyN t)) 0))) →
      wpAny (model prog w) A (call (.builtin "isinstance") [ca, ct]) Q E { s with heap := h2, toks := tk2 } := by
    intro ca σ1 h1 ct h2 tk2 E1 I1 Ca hk hct
    have I2 := I1.keeps hk
    have C2 := Ca.keeps hk
    have E2 : Ext [] σ σ1 s.heap h2 := E1.trans (Ext.of_keeps hk)
    rcases hct with ⟨t', rfl, rfl⟩ | ⟨tp, rfl, htp⟩
    · exact isi_one (s := { s with heap := h2, toks := tk2 }) I2 C2 e3 fun tk => Kv.here (s := s) k E2 I2 (.bool _) (fun _ e => nomatch e)
    · exact isi_many (s := { s with heap := h2, toks := tk2 }) I2 C2 e3 htp fun tk => Kv.here (s := s) k E2 I2 (.bool _) (fun _ e => nomatch e)
  have go : wpAny (model prog w) A (spliced (backTo pos (starEach [x, t] env))) (fun vs s' => wpAny (model prog w) A (call (.builtin "isinstance") ([] ++ vs)) Q E s') E s := by
    refine args_cons (hx a _ e1 σ X s _ E ok I hX fun ca σ1 h1 tk1 E1 I1 Ca _ => ?_) he
    refine args_cons ?_ he2
    unfold tyNames at ht
    split at ht
    · rename_i es hes
      obtain ⟨n, tpos, rfl⟩ := tupOf_some hes
      match es, ht with
      | [y, z], ht =>
        simp only [tyTwo] at ht
        split at ht
        case h_2 => cases ht
        rename_i t1 h1'
        split at ht
        case h_2 => cases ht
        rename_i t2 h2'
        cases ht
        obtain ⟨n1, p1, rfl, hy, hy'⟩ := tyOne_name h1'
        obtain ⟨n2, p2, rfl, hz, hz'⟩ := tyOne_name h2'
        obtain ⟨m1, v1⟩ := ty_mem hy'
        obtain ⟨m2, v2⟩ := ty_mem hz'
        refine Tuple_ (args_cons (blt_load (s := { s with heap := h1, toks := tk1 }) G (ok.ext E1) I1 hy m1 v1 (args_cons (blt_load (s := { s with heap := h1, toks := tk1 }) G (ok.ext E1) I1 hz m2 v2 (args_nil ?_)) rfl)) rfl)
        refine wpAny_newObj_type ?_ (Nat.le_trans (by decide : 2 ≤ sizeMax) sizeLine_ge)
        refine args_nil ?_
        exact fin ca σ1 h1 _ _ tk1 E1 I1 Ca (fun _ _ e => Heap.get?_push_of_some _ e) (.inr ⟨_, rfl, Heap.get?_push_size _ rfl⟩)
    · obtain ⟨t', h1', rfl⟩ := Option.map_eq_some_iff.mp ht
      obtain ⟨y, yp, rfl, hy, hy'⟩ := tyOne_name h1'
      obtain ⟨hm, hv⟩ := ty_mem hy'
      refine blt_load (s := { s with heap := h1, toks := tk1 }) G (ok.ext E1) I1 hy hm hv (args_nil ?_)
      exact fin ca σ1 h1 _ h1 tk1 E1 I1 Ca (fun _ _ e => e) (.inl ⟨_, rfl, rfl⟩)
  rw [he] at go ⊢
  exact evalArgs_plain go

/-! ### methods -/
theorem lm_slot {m : Str} {l : LM} (h : lmOf m = some l) : Slot "list" m (lmN l) ∧ typeOf (.builtin (lmN l)) = pure (.type "method_descriptor") := by
  unfold lmOf at h
  split at h
  · rename_i e; subst e; cases h; exact ⟨F.slot_list_append, by kernel_rfl⟩
  · split at h
    · rename_i e; subst e; cases h; exact ⟨F.slot_list_insert, by kernel_rfl⟩
    · split at h
      · rename_i e; subst e; cases h; exact ⟨F.slot_list_index, by kernel_rfl⟩
      · split at h
        · rename_i e; subst e; cases h; exact ⟨F.slot_list_count, by kernel_rfl⟩
        · cases h

theorem meth_form {o : Expr} {m : Str} {ap pos : Pos} {es : List Expr} (h : mOk o ap pos es = true) (hn : (backTo pos (starEach es env)).all (!·.1) = true) :
    eval (.Call (.Attribute o m ap) es [] pos) env = (do
      let ov ← eval o env
      standAt ap.atName
      let (f, first) ← holding [ov] (getMethod ov m (do return (← importBound o env).getD true))
      callWith pos f first (backTo pos (starEach es env)) []) := by
  unfold mOk at h
  simp only [Bool.and_eq_true, decide_eq_true_eq] at h
  obtain ⟨⟨⟨hb, hl⟩, hlen⟩, _⟩ := h
  have hbase : attributeBase o m env (eval o env) = eval o env := by cases o <;> first | rfl | exact Bool.noConfusion hb
  have hform : methodCallForm (es.length + ([] : List Keyword).length) (backTo pos (starEach es env)) (backToKw pos (keywordEach [] env)) = true := by
    unfold methodCallForm
    rw [hn]
    exact decide_eq_true (Nat.lt_trans hlen (by decide : 20 < 30))
  show (do
    let ov ← attributeBase o m env (eval o env)
    standAt ap.atName
    methodCall o m ap pos env ov (es.length + ([] : List Keyword).length) (backTo pos (starEach es env)) (backToKw pos (keywordEach [] env))) = _
  rw [hbase]
  unfold methodCall
  rw [hform]
  have hp : methodCallPos true o env ap pos = pure pos := by
    unfold methodCallPos
    simp [hl]
  rw [hp]
  rfl

theorem no_stars {pos : Pos} : ∀ {es : List Expr}, es.all noStar = true → (backTo pos (starEach es env)).all (!·.1) = true
  | [], _ => rfl
  | x :: es, hns => by
    simp only [List.all_cons, Bool.and_eq_true] at hns
    have he : starEach (x :: es) env = (false, eval x env) :: starEach es env := star_cons hns.1
    rw [he]
    show (!false && (backTo pos (starEach es env)).all (!·.1)) = true
    rw [no_stars hns.2]; rfl

theorem sim_meth {f : Expr → HP → R AV} {base : Nat} {o : Expr} {m : Str} {ap pos : Pos} {es : List Expr} {fo : HP → R AV} {H : HP} (hm : mOk o ap pos es = true) (ho : ∀ H, Sim prog w h₀ A env sc ρ (eval o env) H (fo H) false)
    (hs : ∀ e ∈ es, ∀ H, Sim prog w h₀ A env sc ρ (eval e env) H (f e H) false) (hst : ∀ e p H, f (.Starred e p) H = none) :
    Sim prog w h₀ A env sc ρ (eval (.Call (.Attribute o m ap) es [] pos) env) H (methR base m fo (es.map fun e H => f e H) H) false := by
  intro v H' e σ X s Q E ok I hX k
  obtain ⟨a, H1, e1, g0⟩ := bnd_some e
  have hlst : isLst H1 a = true := by
    by_cases hq : isLst H1 a = true
    · exact hq
    · rw [if_neg hq] at g0; cases g0
  rw [if_pos hlst] at g0
  obtain ⟨vs, H2, e2, g2⟩ := bnd_some g0
  have hn : (backTo pos (starEach es env)).all (!·.1) = true := no_stars (by
    unfold mOk at hm
    simp only [Bool.and_eq_true] at hm
    exact hm.2)
  rw [meth_form hm hn]
  refine wpAny_bind (ho H a H1 e1 σ X s _ E ok I hX fun ca σ1 h1 tk1 E1 I1 Ca _ => ?_)
  unfold methB at g2
  split at g2
  case h_2 => cases g2
  rename_i l hl
  cases Ca with
  | @ref kk addr _ hk ho nd =>
    have hlst : (H1[kk]?).isSome = true := hlst
    simp only [lmD] at g2
    split at g2
    case h_2 => cases g2
    rename_i xs hx
    split at g2
    case h_2 => cases g2
    rename_i u ys hop
    cases g2
    obtain ⟨slot, hty⟩ := lm_slot hl
    obtain ⟨zs, hz⟩ := Option.isSome_iff_exists.mp hlst
    obtain ⟨ws, n, hg, _⟩ := objs_at I1 hk ho nd hz
    refine wpAny_bind (wpAny_standAt (wpAny_bind (wpAny_holding ?_)))
    refine getMethod_list_of (s := { s with heap := h1, toks := tk1 }) (items := ws.toArray) slot hty ⟨_, hg, rfl, n, rfl⟩ ⟨_, hg, rfl⟩ ?_
    obtain ⟨ha, hp⟩ := args_of (s := { s with heap := h1, toks := tk1 }) (pos := pos) (fv := .builtin (lmN l)) hs hst e2 (Q := fun x s₁ => wpAny (model prog w) A (call (.builtin (lmN l)) ([.ref addr] ++ x.pos) x.kw) Q E s₁) (E := E) (ok.ext E1) I1 (xlive hX E1) (fun cs σ2 h2 tk2 E2 I2 C2 => by
      exact lm_sound (s := { s with heap := h2, toks := tk2 }) I2 ((Cv.ref hk ho nd).ext E2 NoData.nil) hx hop C2 fun cv h3 tk3 E3 I3 C3 => k cv σ2 h3 tk3 ((E1.trans E2).trans E3) I3 C3 (fun q => nomatch q))
    exact callWith_builtin hp ha
  | @list xs addr ws n hg hσ hx' hln r =>
    simp only [lmD] at g2
    split at g2
    case h_2 => cases g2
    rename_i u hop
    cases g2
    obtain ⟨slot, hty⟩ := lm_slot hl
    refine wpAny_bind (wpAny_standAt (wpAny_bind (wpAny_holding ?_)))
    refine getMethod_list_of (s := { s with heap := h1, toks := tk1 }) (items := ws.toArray) slot hty ⟨_, hg, rfl, n, rfl⟩ ⟨_, hg, rfl⟩ ?_
    obtain ⟨ha, hp⟩ := args_of (s := { s with heap := h1, toks := tk1 }) (pos := pos) (fv := .builtin (lmN l)) hs hst e2 (Q := fun x s₁ => wpAny (model prog w) A (call (.builtin (lmN l)) ([.ref addr] ++ x.pos) x.kw) Q E s₁) (E := E) (ok.ext E1) I1 (xlive hX E1) (fun cs σ2 h2 tk2 E2 I2 C2 => by
      have r2 := r.ext E2 NoData.nil
      have hg2 := E2.keep _ _ hg hσ List.not_mem_nil noDict_list
      exact lmF_sound (s := { s with heap := h2, toks := tk2 }) hg2 r2 (by rw [r.length]; exact hln) hop C2 fun cv tk3 C3 => k cv σ2 h2 tk3 (E1.trans E2) I2 C3 (fun q => nomatch q))
    exact callWith_builtin hp ha
  | _ => exact Bool.noConfusion hlst
end
end Mine

namespace Mine
open PySem PyProof.Rows PySem.Calls

/-- an iterator at place i of what is gone through -/
noncomputable def IterAt (src : AV) (xs : List AV) (I : Addr) (i : Nat) (σ X : List Addr) (h : Heap) : Prop :=
  match src with
  | .list _ => ∃ ax vs n, h.IsListIter I ax i ∧ h.get? ax = some (listO vs n) ∧ ax ∉ σ ∧ ax ∉ X ∧ CvL h σ X xs vs
  | .tup _ => ∃ ax vs n, h.IsTupleIter I ax i ∧ h.get? ax = some (tupO vs n) ∧ ax ∉ σ ∧ ax ∉ X ∧ CvL h σ X xs vs
  | .range a b => xs = rangeL a b ∧ IsRangeIter h I (a + (i : Int)) ((xs.length : Int) - (i : Int)) 1
  | .ref k => ∃ ax, h.IsListIter I ax i ∧ Cv h σ X (.ref k) (.ref ax)
  | _ => False

section
variable {prog : Program} {w : World} {A : Around} {s : Shared} {h₀ : Heap} {H H' : HP} {σ σ' X own : List Addr} {src : AV} {xs : List AV} {I : Addr} {i : Nat} {h h' : Heap}

theorem IterAt.there (x : IterAt src xs I i σ X h) : ∃ o, h.get? I = some o ∧ ¬ Obj.isData o := by
  have l : ∀ o, h.get? I = some o → o.cls = .type "list_iterator" ∨ o.cls = .type "tuple_iterator" ∨ o.cls = .type "range_iterator" → ∃ o, h.get? I = some o ∧ ¬ Obj.isData o := by
    intro o e hc
    refine ⟨o, e, fun d => ?_⟩
    rcases hc with hc | hc | hc <;> exact d.clsNo hc ⟨by decide, by decide, by decide⟩
  cases src <;> first | exact x.elim | skip
  · obtain ⟨ax, vs, n, ⟨o, ho, hc, _⟩, _⟩ := x; exact l o ho (.inr (.inl hc))
  · obtain ⟨ax, vs, n, ⟨o, ho, hc, _⟩, _⟩ := x; exact l o ho (.inl hc)
  · obtain ⟨_, x⟩ := x; exact l _ x (.inr (.inr rfl))
  · obtain ⟨ax, ⟨o, ho, hc, _⟩, _⟩ := x; exact l o ho (.inl hc)

theorem IterAt.noD (x : IterAt src xs I i σ X h) : ∀ o, h.get? I = some o → noDict o := by
  have l : ∀ o, h.get? I = some o → (∃ vs, o.data = .fields vs) → ∀ o', h.get? I = some o' → noDict o' := fun o e ⟨vs, d⟩ o' e' ⟨_, _, q⟩ => by
    rw [e] at e'; cases e'; rw [d] at q; cases q
  cases src <;> first | exact x.elim | skip
  · obtain ⟨ax, vs, n, ⟨o, ho, hc, hd⟩, _⟩ := x; exact l o ho ⟨_, hd⟩
  · obtain ⟨ax, vs, n, ⟨o, ho, hc, hd⟩, _⟩ := x; exact l o ho ⟨_, hd⟩
  · obtain ⟨_, x⟩ := x; exact l _ x ⟨_, rfl⟩
  · obtain ⟨ax, ⟨o, ho, hc, hd⟩, _⟩ := x; exact l o ho ⟨_, hd⟩

theorem IterAt.ext (x : IterAt src xs I i σ X h) (E : Ext own σ σ' h h') (nd : NoData h X own) (hI : I ∉ σ) (hIo : I ∉ own) : IterAt src xs I i σ' X h' := by
  cases src <;> first | exact x.elim | skip
  · obtain ⟨ax, vs, n, ⟨o, ho, hc, hd⟩, hg, h1, h2, r⟩ := x
    refine ⟨ax, vs, n, ⟨o, E.keep _ _ ho hI hIo (fun ⟨_, _, q⟩ => by rw [hd] at q; cases q), hc, hd⟩, E.keep _ _ hg h1 (fun m => nd ax m h2 _ hg (.inr (.inl ⟨_, _, rfl⟩))) noDict_tup, fun m => (E.new _ m).elim h1 fun q => (by rw [hg] at q; cases q), h2, r.ext E nd⟩
  · obtain ⟨ax, vs, n, ⟨o, ho, hc, hd⟩, hg, h1, h2, r⟩ := x
    refine ⟨ax, vs, n, ⟨o, E.keep _ _ ho hI hIo (fun ⟨_, _, q⟩ => by rw [hd] at q; cases q), hc, hd⟩, E.keep _ _ hg h1 (fun m => nd ax m h2 _ hg (.inl ⟨_, _, rfl⟩)) noDict_list, fun m => (E.new _ m).elim h1 fun q => (by rw [hg] at q; cases q), h2, r.ext E nd⟩
  · exact ⟨x.1, E.keep _ _ x.2 hI hIo (fun ⟨_, _, q⟩ => by cases q)⟩
  · obtain ⟨ax, ⟨o, ho, hc, hd⟩, hk⟩ := x
    exact ⟨ax, ⟨o, E.keep _ _ ho hI hIo (fun ⟨_, _, q⟩ => by rw [hd] at q; cases q), hc, hd⟩, hk.ext E nd⟩

theorem iter_start {c : Value} {Q E : Value → Shared → Prop} (inv : InvH h₀ H σ X s.heap) (cv : Cv s.heap σ X src c) (e : iterC H src = some xs)
    (hQ : ∀ I h', s.heap.get? I = none → (∀ b o, s.heap.get? b = some o → h'.get? b = some o) → IterAt src xs I 0 σ X h' → Q (.ref I) { s with heap := h' }) : wpAny (model prog w) A (pyIter c) Q E s := by
  have hk' : ∀ (o' : Obj) b o, s.heap.get? b = some o → (s.heap.push o').get? b = some o := fun o' b o e => Heap.get?_push_of_some _ e
  cases cv with
  | list hg h1 h2 _ r =>
    cases e
    exact wpAny_pyIter_list (items := _) ⟨_, hg, rfl, _, rfl⟩ (hQ _ _ (get_size_none _) (hk' _) ⟨_, _, _, ⟨_, Heap.get?_push_size _ rfl, rfl, rfl⟩, hk' _ _ _ hg, h1, h2, r.keeps (hk' _)⟩)
  | tup hg h1 h2 _ r =>
    cases e
    exact wpAny_pyIter_tuple ⟨_, hg, rfl, _, rfl⟩ (hQ _ _ (get_size_none _) (hk' _) ⟨_, _, _, ⟨_, Heap.get?_push_size _ rfl, rfl, rfl⟩, hk' _ _ _ hg, h1, h2, r.keeps (hk' _)⟩)
  | range hr h1 h2 s1 s2 =>
    cases e
    have b1 := small_bounds s1
    have b2 := small_bounds s2
    refine wpAny_pyIter_range hr (small_one (by lia) (by lia) (by lia) (by lia)) (hQ _ _ (get_size_none _) (hk' _) ⟨rfl, ?_⟩)
    rw [rangeSize_nat]
    show (s.heap.push _).get? s.heap.objs.size = _
    rw [Heap.get?_push_size _ rfl]
    simp [rangeL]
  | ref hk ho nd =>
    obtain ⟨vs, n, hg, _⟩ := objs_at inv hk ho nd e
    exact wpAny_pyIter_list (items := _) ⟨_, hg, rfl, _, rfl⟩ (hQ _ _ (get_size_none _) (hk' _) ⟨_, ⟨_, Heap.get?_push_size _ rfl, rfl, rfl⟩, (Cv.ref hk ho nd).keeps (hk' _)⟩)
  | _ => cases e

theorem rangeL_get {a b : Int} {x : AV} (e : (rangeL a b)[i]? = some x) : x = .int (a + (i : Int)) ∧ i < (rangeL a b).length := by
  unfold rangeL at e ⊢
  rw [List.getElem?_map] at e
  obtain ⟨j, hj, rfl⟩ := Option.map_eq_some_iff.mp e
  have := List.getElem?_eq_some_iff.mp hj
  obtain ⟨h1, h2⟩ := this
  simp at h2
  subst h2
  simp at h1
  exact ⟨rfl, by simpa using h1⟩

theorem iter_next {x : AV} {Q : Option Value → Shared → Prop} {E : Value → Shared → Prop} (hIσ : I ∉ σ) (inv : InvH h₀ H σ X s.heap) (st : still src xs H) (it : IterAt src xs I i σ X s.heap) (e : xs[i]? = some x)
    (hQ : ∀ v h' tk, Heap.SameBut I s.heap h' → IterAt src xs I (i + 1) σ X h' → Cv h' σ X x v → Q (some v) { s with heap := h', toks := tk }) : wpAny (model prog w) A (pyNext (.ref I)) Q E s := by
  obtain ⟨oI, hoI, ndI⟩ := it.there
  have nd : NoData s.heap X [I] := fun a m _ o e => by rw [List.mem_singleton.mp m, hoI] at e; cases e; exact ndI
  have ext : ∀ h', Heap.SameBut I s.heap h' → (∃ o, h'.get? I = some o) → Ext [I] σ σ s.heap h' := fun h' hs hi => .one hs hi it.noD hIσ
  cases src <;> first | exact it.elim | skip
  · obtain ⟨ax, vs, n, ht, hg, h1, h2, r⟩ := it
    obtain ⟨v, hv, c⟩ := r.get e
    have hne : ax ≠ I := by rintro rfl; obtain ⟨o, ho, hc, _⟩ := ht; rw [hg] at ho; cases ho; simp at hc
    refine wpAny_pyNext_tuple_item (items := vs.toArray) ht ⟨_, hg, rfl, n, rfl⟩ (x := v) (by simpa using hv) fun h' ht' hs' => ?_
    have E' := ext h' hs' (let ⟨o, ho, _⟩ := ht'; ⟨o, ho⟩)
    exact hQ v h' s.toks hs' ⟨ax, vs, n, ht', (hs'.2 ax hne).trans hg, h1, h2, r.ext E' nd⟩ (c.ext E' nd)
  · obtain ⟨ax, vs, n, ht, hg, h1, h2, r⟩ := it
    obtain ⟨v, hv, c⟩ := r.get e
    have hne : ax ≠ I := by rintro rfl; obtain ⟨o, ho, hc, _⟩ := ht; rw [hg] at ho; cases ho; simp at hc
    refine wpAny_pyNext_list_item (items := vs.toArray) ht ⟨_, hg, rfl, n, rfl⟩ (x := v) (by simpa using hv) fun h' ht' hs' => ?_
    have E' := ext h' hs' (let ⟨o, ho, _⟩ := ht'; ⟨o, ho⟩)
    exact hQ v h' s.toks hs' ⟨ax, vs, n, ht', (hs'.2 ax hne).trans hg, h1, h2, r.ext E' nd⟩ (c.ext E' nd)
  · obtain ⟨rfl, hr⟩ := it
    obtain ⟨rfl, hlt⟩ := rangeL_get e
    refine wpAny_pyNext_range_item hr (by lia) fun h' hr' hs' => ?_
    refine hQ _ h' _ hs' ⟨rfl, ?_⟩ (.int _ _)
    have e1 : ∀ a : Int, a + ((i + 1 : Nat) : Int) = a + (i : Int) + 1 := fun a => by push_cast; lia
    have e2 : ∀ n : Nat, (n : Int) - ((i + 1 : Nat) : Int) = (n : Int) - (i : Int) - 1 := fun n => by push_cast; lia
    rw [e1, e2]; exact hr'
  · obtain ⟨ax, ht, cr⟩ := it
    obtain ⟨vs, n, hg, _, r⟩ : ∃ vs n, s.heap.get? ax = some (listO vs n) ∧ xs.length ≤ sizeMax ∧ CvL s.heap σ X xs vs := by
      cases cr with | ref hk ho nd => exact objs_at inv hk ho nd st
    obtain ⟨v, hv, c⟩ := r.get e
    refine wpAny_pyNext_list_item (items := vs.toArray) ht ⟨_, hg, rfl, n, rfl⟩ (x := v) (by simpa using hv) fun h' ht' hs' => ?_
    have E' := ext h' hs' (let ⟨o, ho, _⟩ := ht'; ⟨o, ho⟩)
    exact hQ v h' s.toks hs' ⟨ax, ht', cr.ext E' nd⟩ (c.ext E' nd)

theorem iter_done {Q : Option Value → Shared → Prop} {E : Value → Shared → Prop} (hh : A.handled = none) (inv : InvH h₀ H σ X s.heap) (st : still src xs H) (it : IterAt src xs I xs.length σ X s.heap)
    (hQ : ∀ h', Heap.ExtBut I s.heap h' → Q none { s with heap := h' }) : wpAny (model prog w) A (pyNext (.ref I)) Q E s := by
  cases src <;> first | exact it.elim | skip
  · obtain ⟨ax, vs, n, ht, hg, h1, h2, r⟩ := it
    exact wpAny_pyNext_tuple_end (items := vs.toArray) hh ht ⟨_, hg, rfl, n, rfl⟩ (by simp [r.length]) hQ
  · obtain ⟨ax, vs, n, ht, hg, h1, h2, r⟩ := it
    exact wpAny_pyNext_list_end (items := vs.toArray) hh ht ⟨_, hg, rfl, n, rfl⟩ (by simp [r.length]) hQ
  · obtain ⟨rfl, hr⟩ := it
    exact wpAny_pyNext_range_end hh hr (by lia) hQ
  · obtain ⟨ax, ht, cr⟩ := it
    obtain ⟨vs, n, hg, _, r⟩ : ∃ vs n, s.heap.get? ax = some (listO vs n) ∧ xs.length ≤ sizeMax ∧ CvL s.heap σ X xs vs := by
      cases cr with | ref hk ho nd => exact objs_at inv hk ho nd st
    exact wpAny_pyNext_list_end (items := vs.toArray) hh ht ⟨_, hg, rfl, n, rfl⟩ (by simp [r.length]) hQ

theorem iter_self {Q E : Value → Shared → Prop} (it : IterAt src xs I i σ X s.heap) (hQ : Q (.ref I) s) : wpAny (model prog w) A (pyIter (.ref I)) Q E s := by
  cases src <;> first | exact it.elim | skip
  · obtain ⟨ax, vs, n, ht, _⟩ := it; exact wpAny_pyIter_tupleiter ht hQ
  · obtain ⟨ax, vs, n, ht, _⟩ := it; exact wpAny_pyIter_listiter ht hQ
  · exact wpAny_pyIter_rangeiter it.2 hQ
  · obtain ⟨ax, ht, _⟩ := it; exact wpAny_pyIter_listiter ht hQ
end
end Mine

namespace Mine
open PySem PyProof.Rows PySem.Calls

/-! ### objects that are let go -/
section
variable {h h' h'' : Heap} {own dead σ σ' X : List Addr}
theorem but_k (k : ∀ b o, b ∉ dead → h.get? b = some o → h'.get? b = some o) (nd : NoData h X dead) : ∀ a o, h.get? a = some o → Obj.isData o → a ∉ σ → a ∉ X → h'.get? a = some o ∧ a ∉ σ ∧ a ∉ X :=
  fun a o e d h1 h2 => ⟨k a o (fun m => nd a m h2 o e d) e, h1, h2⟩
theorem Cv.but (ns : ∀ a ∈ dead, a ∉ σ) (k : ∀ b o, b ∉ dead → h.get? b = some o → h'.get? b = some o) (nd : NoData h X dead) {v : AV} {c : Value} (q : Cv h σ X v c) : Cv h' σ X v c := q.mono (but_k k nd) (fun _ _ e => e) fun a o m e => ⟨o, k a o (fun q => ns a q m) e, Iff.rfl⟩
theorem CvL.but (ns : ∀ a ∈ dead, a ∉ σ) (k : ∀ b o, b ∉ dead → h.get? b = some o → h'.get? b = some o) (nd : NoData h X dead) {v : List AV} {c : List Value} (q : CvL h σ X v c) : CvL h' σ X v c := q.mono (but_k k nd) (fun _ _ e => e) fun a o m e => ⟨o, k a o (fun q => ns a q m) e, Iff.rfl⟩
theorem Ext.but (E : Ext own σ σ' h h') (n : ∀ a ∈ dead, h.get? a = none) (k : ∀ b o, b ∉ dead → h'.get? b = some o → h''.get? b = some o) : Ext own σ σ' h h'' where
  keep := fun b o e h1 h2 nd => k b o (fun m => by rw [n b m] at e; cases e) (E.keep b o e h1 h2 nd)
  slot := fun b o e h1 h2 => let ⟨sl, q⟩ := E.slot b o e h1 h2; ⟨sl, k b _ (fun m => by rw [n b m] at e; cases e) q⟩
  live := fun b o e => let ⟨o', e', d⟩ := E.live b o e; ⟨o', k b o' (fun m => by rw [n b m] at e; cases e) e', d⟩
  pre := E.pre
  new := E.new
  kind := fun a o m e => let ⟨o', e', d⟩ := E.kind a o m e; ⟨o', k a o' (fun q => by rw [n a q] at e; cases e) e', d⟩
theorem InvH.but {h₀ : Heap} {H : HP} (I : InvH h₀ H σ X h) (k : ∀ b o, b ∉ dead → h.get? b = some o → h'.get? b = some o) (nd : NoData h X dead) (n : ∀ a ∈ dead, h₀.get? a = none) (ns : ∀ a ∈ dead, a ∉ σ) : InvH h₀ H σ X h' where
  keep := fun b o e => k b o (fun m => by rw [n b m] at e; cases e) (I.keep b o e)
  low := I.low
  len := I.len
  nodup := I.nodup
  apart := I.apart
  objs := fun i o e => by
    obtain ⟨a, ha, ok⟩ := I.objs i o e
    refine ⟨a, ha, ?_⟩
    rcases ok with ⟨hl, vs, m, e, r⟩ | d
    · exact .inl ⟨hl, vs, m, k _ _ (fun q => ns a q (List.mem_of_getElem? ha)) e, r.but ns k nd⟩
    · exact .inr (d.at fun ob e => k _ _ (fun q => ns a q (List.mem_of_getElem? ha)) e)
end

/-! ### a comprehension's table -/
theorem closure_go {env : Env} : ∀ (names : List (Str × NameKind)) (acc : List (Str × Addr)), (∀ y ∈ names, y.2 = .free → ∃ c, env.cells.lookup y.1 = some c) →
    ∃ cl, (forIn names acc (fun (x : Str × NameKind) (r : List (Str × Addr)) => if x.2 == .free then (do let a ← cellOf env x.1; pure (ForInStep.yield ((x.1, a) :: r))) else pure (ForInStep.yield r)) : Sem (List (Str × Addr))) = pure cl ∧
      (∀ n c, (n, c) ∈ cl → (n, c) ∈ acc ∨ env.cells.lookup n = some c) ∧ (∀ n, ((n, NameKind.free) ∈ names ∨ (acc.lookup n).isSome = true) → (cl.lookup n).isSome = true)
  | [], acc, _ => ⟨acc, by rw [List.forIn_nil], fun n c m => .inl m, fun n h => h.elim (fun m => nomatch m) id⟩
  | (x, k) :: r, acc, h => by
    by_cases hk : k = .free
    · subst hk
      obtain ⟨c, hc⟩ := h (x, .free) List.mem_cons_self rfl
      obtain ⟨cl, h1, h2, h3⟩ := closure_go r ((x, c) :: acc) (fun y m => h y (List.mem_cons_of_mem _ m))
      refine ⟨cl, ?_, fun n d m => ?_, fun n hn => ?_⟩
      · rw [List.forIn_cons]
        simp only [beq_self_eq_true, if_true]
        have : cellOf env x = pure c := by unfold cellOf; rw [hc]
        rw [this]
        simpa using h1
      · rcases h2 n d m with q | q
        · rcases List.mem_cons.mp q with q | q
          · cases q; exact .inr hc
          · exact .inl q
        · exact .inr q
      · refine h3 n ?_
        rcases hn with m | m
        · rcases List.mem_cons.mp m with q | q
          · cases q; exact .inr (by simp [List.lookup_cons])
          · exact .inl q
        · right
          rw [List.lookup_cons]
          split
          · rfl
          · exact m
    · obtain ⟨cl, h1, h2, h3⟩ := closure_go r acc (fun y m => h y (List.mem_cons_of_mem _ m))
      refine ⟨cl, ?_, h2, fun n hn => h3 n (hn.imp_left fun m => ?_)⟩
      · rw [List.forIn_cons]
        have : (k == NameKind.free) = false := by simpa using hk
        simp only [this, Bool.false_eq_true, if_false]
        simpa using h1
      · rcases List.mem_cons.mp m with q | q
        · cases q; exact absurd rfl hk
        · exact q

theorem closure_ok {env : Env} {sc : Scope} (h : ∀ y ∈ sc.names, y.2 = .free → ∃ c, env.cells.lookup y.1 = some c) :
    ∃ cl, closureFor sc env = pure cl ∧ (∀ n c, (n, c) ∈ cl → env.cells.lookup n = some c) ∧ (∀ n, (n, NameKind.free) ∈ sc.names → (cl.lookup n).isSome = true) := by
  obtain ⟨cl, h1, h2, h3⟩ := closure_go sc.names [] h
  refine ⟨cl, ?_, fun n c m => (h2 n c m).resolve_left (fun q => nomatch q), fun n m => h3 n (.inl m)⟩
  unfold closureFor
  rw [← h1]
  have key : ∀ f g : (Str × NameKind) → List (Str × Addr) → Sem (ForInStep (List (Str × Addr))), f = g → ((forIn sc.names [] f : Sem (List (Str × Addr))) >>= fun r => pure r) = forIn sc.names [] g := by
    rintro f _ rfl
    exact bind_pure _
  refine key _ _ ?_
  funext x r
  obtain ⟨a, b⟩ := x
  by_cases hb : b = NameKind.free
  · subst hb; simp
  · have : (b == NameKind.free) = false := by simpa using hb
    simp [this]

theorem relabel_lookup {sc : Scope} {env : Env} {y : Str} {k : NameKind} (h : (relabel sc env).names.lookup y = some k) : sc.names.lookup y = some k ∨ (sc.names.lookup y = some .free ∧ k = .cell) := by
  unfold relabel at h
  simp only at h
  generalize sc.names = names at h ⊢
  induction names with
  | nil => simp at h
  | cons x r ih =>
    obtain ⟨n, kk⟩ := x
    simp only [List.map_cons] at h
    cases hy : y == n with
    | true =>
      split at h
      · rename_i hc
        simp only [Bool.and_eq_true, beq_iff_eq] at hc
        simp only [List.lookup_cons, hy] at h ⊢
        cases h
        exact .inr ⟨by rw [hc.1.1], rfl⟩
      · simp only [List.lookup_cons, hy] at h ⊢
        exact .inl h
    | false =>
      split at h
      · simp only [List.lookup_cons, hy] at h ⊢
        exact ih h
      · simp only [List.lookup_cons, hy] at h ⊢
        exact ih h
theorem relabel_other {sc : Scope} {env : Env} {y : Str} {k : NameKind} (h : sc.names.lookup y = some k) : (relabel sc env).names.lookup y = some k ∨ (k = .free ∧ (relabel sc env).names.lookup y = some .cell) := by
  unfold relabel
  simp only
  generalize sc.names = names at h ⊢
  induction names with
  | nil => simp at h
  | cons x r ih =>
    obtain ⟨n, kk⟩ := x
    simp only [List.map_cons]
    cases hy : y == n with
    | true =>
      simp only [List.lookup_cons, hy] at h
      cases h
      split
      · rename_i hc
        simp only [Bool.and_eq_true, beq_iff_eq] at hc
        simp only [List.lookup_cons, hy]
        exact .inr ⟨hc.1.1, trivial⟩
      · simp only [List.lookup_cons, hy]
        exact .inl trivial
    | false =>
      simp only [List.lookup_cons, hy] at h
      split
      · simp only [List.lookup_cons, hy]
        exact ih h
      · simp only [List.lookup_cons, hy]
        exact ih h

noncomputable def without (ρ : Loc) (x : Str) : Loc := fun y => if y = x then none else ρ y
theorem upd_without (ρ : Loc) (x : Str) (v : AV) : upd (without ρ x) x v = upd ρ x v := by
  funext y
  unfold upd without
  split <;> rfl

structure CompScope (fsc sc : Scope) (x : Str) : Prop where
  kind : sc.kind = .function
  own : sc.names.lookup x = some .local
  locs : ∀ y ∈ sc.names, y.2 = .local → sc.names.lookup y.1 = some .local ∧ (y.1 = x ∨ oddName y.1 = true)
  cell : ∀ y ∈ sc.names, y.2 ≠ .cell
  free : ∀ y ∈ sc.names, y.2 = .free → isCel fsc y.1 = true
theorem compOk_of {fsc sc : Scope} {x : Str} (h : compOk fsc sc x = true) : CompScope fsc sc x := by
  unfold compOk at h
  simp only [Bool.and_eq_true, decide_eq_true_eq, List.all_eq_true] at h
  obtain ⟨⟨h1, h2⟩, h3⟩ := h
  refine ⟨h1, h2, fun y m e => ?_, fun y m e => ?_, fun y m e => ?_⟩
  · have := h3 y m; rw [e] at this
    simpa using this
  · have := h3 y m; rw [e] at this; cases this
  · have := h3 y m; rw [e] at this; exact this

theorem EnvOk.comp {h₀ h' : Heap} {env : Env} {fsc sc : Scope} {ρ : Loc} {σ X : List Addr} {x : Str} {C : Addr} {cl : List (Str × Addr)} {m : Str → Option Value} (ok : EnvOk h₀ env fsc ρ σ X h') (cs : CompScope fsc sc x)
    (hcl : ∀ n c, (n, c) ∈ cl → env.cells.lookup n = some c) (hfr : ∀ n, (n, NameKind.free) ∈ sc.names → (cl.lookup n).isSome = true) (hn : h'.Ns C m) (hC : C ∉ σ) (hC0 : h₀.get? C = none) :
    EnvOk h₀ (compEnvC sc cl C env) sc (without ρ x) σ X h' where
  kind := by simp [compEnvC, relabel, cs.kind]
  loc := fun y e => lookup_relabel_local e
  cel := fun y e => by
    unfold isCel at e
    split at e
    · rename_i q; exact absurd rfl (cs.cell _ (mem_of_lookup q))
    · rename_i q
      rcases relabel_other (env := env) q with r | ⟨_, r⟩
      · exact .inr r
      · exact .inl r
    · cases e
  sto := fun y e => absurd rfl (cs.cell _ (mem_of_lookup e))
  glb := fun y e => by
    rcases relabel_other (env := env) e with r | ⟨q, r⟩
    · exact r
    · cases q
  gl := ok.gl
  bl := ok.bl
  ns := ⟨m, hn, fun y v od k r => by
    rcases relabel_lookup (env := env) (show (relabel sc env).names.lookup y = _ from k) with q | ⟨_, q⟩
    · rcases (cs.locs _ (mem_of_lookup q) rfl).2 with q | q
      · simp only at q; subst q; simp [without] at r
      · simp only at q; rw [od] at q; cases q
    · cases q⟩
  cells := fun y k => by
    have hf : sc.names.lookup y = some .free := by
      rcases k with k | k
      · rcases relabel_lookup (env := env) (show (relabel sc env).names.lookup y = _ from k) with q | ⟨q, _⟩
        · exact absurd rfl (cs.cell _ (mem_of_lookup q))
        · exact q
      · rcases relabel_lookup (env := env) (show (relabel sc env).names.lookup y = _ from k) with q | ⟨q, _⟩
        · exact q
        · exact q
    obtain ⟨c, hc⟩ := Option.isSome_iff_exists.mp (hfr y (mem_of_lookup hf))
    obtain ⟨c', ov, hl, hi, f⟩ := ok.cells y (ok.cel y (cs.free _ (mem_of_lookup hf) rfl))
    have := hcl y c (mem_of_lookup hc)
    have hcc : c' = c := Option.some.inj (hl.symm.trans this)
    refine ⟨c, ov, hc, hcc ▸ hi, fun v r => f v ?_⟩
    unfold without at r
    split at r
    · cases r
    · exact r
  there := fun n c m => ok.there n c (mem_of_lookup (hcl n c m))
  apart := fun a b c ha hb => ok.apart a b c (hcl _ _ (mem_of_lookup ha)) (hcl _ _ (mem_of_lookup hb))
  own := fun a m => by
    rcases List.mem_cons.mp m with rfl | m
    · exact ⟨hC, hC0⟩
    · obtain ⟨⟨n, c⟩, hm, rfl⟩ := List.mem_map.mp m
      exact ok.own _ (List.mem_cons_of_mem _ (List.mem_map.mpr ⟨_, mem_of_lookup (hcl n c hm), rfl⟩))
end Mine

namespace Mine
open PySem PyProof.Rows PySem.Calls

abbrev tstT (ifs : List Expr) (env : Env) (b : Bool) : Sem Bool :=
  forIn ifs b fun c r => if r = true then do let ok ← isTrue c env (eval c env); pure (ForInStep.yield ok) else pure (ForInStep.yield r)

section
variable {prog : Program} {w : World} {h₀ : Heap} {A : Around} {env : Env} {sc : Scope} {ρ : Loc}

theorem tst_false (env : Env) : ∀ (ifs : List Expr), tstT ifs env false = pure false
  | [] => by simp [tstT]
  | c :: r => by
    have ih := tst_false env r
    unfold tstT at ih ⊢
    rw [List.forIn_cons]
    simp only [Bool.false_eq_true, if_false]
    simpa using ih

theorem sim_tests {f : Expr → HP → R Bool} : ∀ {ifs : List Expr}, (∀ c ∈ ifs, ∀ H, SimB prog w h₀ A env sc ρ (isTrue c env (eval c env)) H (f c H)) → ∀ {H : HP}, SimB prog w h₀ A env sc ρ (tstT ifs env true) H (boolB .And (ifs.map fun c H => f c H) H)
  | [], _, H, b, H', e, σ, X, s, Q, E, ok, I, hX, k => by
    simp only [List.map_nil, boolB, Option.some.injEq, Prod.mk.injEq] at e
    obtain ⟨rfl, rfl⟩ := e
    unfold tstT
    rw [List.forIn_nil]
    exact wpAny_pure (k σ s.heap s.toks (Ext.refl _ _ _) I)
  | c :: r, hs, H, b, H', e, σ, X, s, Q, E, ok, I, hX, k => by
    simp only [List.map_cons, boolB] at e
    obtain ⟨b1, H1, e1, e2⟩ := bnd_some e
    unfold tstT
    rw [List.forIn_cons]
    simp only [if_true]
    refine wpAny_bind (wpAny_bind (hs c List.mem_cons_self H b1 H1 e1 σ X s _ E ok I hX fun σ1 h1 tk1 E1 I1 => wpAny_pure ?_))
    cases b1 with
    | true =>
      exact sim_tests (fun c' m => hs c' (List.mem_cons_of_mem _ m)) b H' e2 σ1 X _ Q E (ok.ext E1) I1 (xlive hX E1) fun σ2 h2 tk2 E2 I2 => k σ2 h2 tk2 (E1.trans E2) I2
    | false =>
      cases e2
      exact wpAny_of_eq (tst_false env r) (k σ1 h1 tk1 E1 I1)
end

/-- what a comprehension's loop leaves -/
structure CompEnd (h₀ : Heap) (σ X : List Addr) (s : Shared) (H' : HP) (ys : List AV) (D C : Addr) (σ' : List Addr) (h' : Heap) (vs : List Value) (n : Nat) (m : Str → Option Value) : Prop where
  ext : Ext [] σ σ' s.heap h'
  inv : InvH h₀ H' σ' (D :: X) h'
  at' : h'.get? D = some (listO vs n)
  cvs : CvL h' σ' (D :: X) ys vs
  ns : h'.Ns C m
  newD : s.heap.get? D = none
  newC : s.heap.get? C = none
  ne : D ≠ C
  c0 : h₀.get? C = none
  d0 : h₀.get? D = none
  cσ : C ∉ σ'
  size : ys.length ≤ sizeMax

theorem stop_some {β : Type} {v : AV} {xs : List AV} {H : HP} {k : R β} {y : β × HP} (h : stop v xs H k = some y) : still v xs H ∧ k = some y := by
  unfold stop at h
  split at h
  · rename_i q; exact ⟨q, h⟩
  · cases h
theorem compL_length {src : AV} {xs : List AV} {tst : Loc → HP → R Bool} {elt : Loc → HP → R AV} {x : Str} {ρ : Loc} : ∀ {vs : List AV} {H H' : HP} {ys : List AV}, compL src xs tst elt x ρ vs H = some (ys, H') → ys.length ≤ vs.length
  | [], H, H', ys, e => by
    obtain ⟨_, e⟩ := stop_some e
    cases e; exact Nat.le_refl _
  | v :: vs, H, H', ys, e => by
    obtain ⟨_, e⟩ := stop_some e
    obtain ⟨b, H1, e1, e2⟩ := bnd_some e
    cases b with
    | true =>
      obtain ⟨y, H2, e3, e4⟩ := bnd_some e2
      obtain ⟨zs, H3, e5, e6⟩ := bnd_some e4
      cases e6
      exact Nat.succ_le_succ (compL_length e5)
    | false => exact Nat.le_succ_of_le (compL_length e2)

/-- what holds at each turn of a comprehension's loop -/
inductive CompAt (h₀ : Heap) (C D I : Addr) (src : AV) (xs ys : List AV) (tst : Loc → HP → R Bool) (el : Loc → HP → R AV) (x : Str) (ρ : Loc) (cenv : Env) (sc : Scope) (H' : HP) (s : Shared) (σ X : List Addr) (k : Nat) (s' : Shared) : Prop
  | mk (i : Nat) (H1 : HP) (σ1 : List Addr) (h1 : Heap) (tk : Nat) (done rest : List AV) (vs : List Value) (n : Nat) (hs : s' = { s with heap := h1, toks := tk }) (hi : i ≤ xs.length) (hk : k = xs.length + 1 - i) (it : IterAt src xs I i σ1 (D :: X) h1) (hI : I ∉ σ1) (hD : h1.get? D = some (listO vs n)) (cd : CvL h1 σ1 (D :: X) done vs)
      (ok : EnvOk h₀ cenv sc (without ρ x) σ1 (D :: X) h1) (inv : InvH h₀ H1 σ1 (D :: X) h1) (e : compL src xs tst el x ρ (xs.drop i) H1 = some (rest, H')) (hy : ys = done ++ rest) (hl : done.length ≤ i) (E : Ext [C, D, I] σ σ1 s.heap h1)

theorem NoData.ns {h : Heap} {X : List Addr} {C : Addr} {m : Str → Option Value} (n : h.Ns C m) : NoData h X [C] := fun a m _ o e d => by
  obtain ⟨o', es, ep, ho, hd, _⟩ := n
  rw [List.mem_singleton.mp m, ho] at e; cases e
  exact d.noDict ⟨_, _, hd⟩
theorem NoData.one {h : Heap} {X : List Addr} {I : Addr} (t : ∃ o, h.get? I = some o ∧ ¬ Obj.isData o) : NoData h X [I] := fun a m _ o e => by
  obtain ⟨oI, hoI, ndI⟩ := t
  rw [List.mem_singleton.mp m, hoI] at e; cases e; exact ndI
theorem Ext.notNew {own σ σ' : List Addr} {h h' : Heap} (E : Ext own σ σ' h h') {a : Addr} (n : a ∉ σ) (l : ∃ o, h.get? a = some o) : a ∉ σ' := fun m => (E.new a m).elim n fun q => by
  obtain ⟨o, ho⟩ := l; rw [ho] at q; cases q
theorem EnvOk.without {h₀ h : Heap} {env : Env} {sc : Scope} {ρ : Loc} {σ X : List Addr} {x : Str} {v : AV} (ok : EnvOk h₀ env sc (upd ρ x v) σ X h) : EnvOk h₀ env sc (Mine.without ρ x) σ X h := ok.fewer fun y u r => by
  unfold Mine.without at r; unfold upd
  split at r
  · cases r
  · rename_i q; rw [if_neg q]; exact r

section
variable {prog : Program} {w : World} {h₀ : Heap} {A : Around} {env : Env} {fsc sc : Scope} {ρ : Loc}

theorem comp_loop {elt iter : Expr} {x : Str} {px : Pos} {ifs : List Expr} {pos : Pos} {tst : Loc → HP → R Bool} {el : Loc → HP → R AV} {C D I : Addr} {src : AV} {xs ys : List AV} {H₀ H' : HP} {s : Shared} {σ X : List Addr} {R : Result → Shared → Prop} {cenv : Env}
    (hh : A.handled = none) (hsz : xs.length ≤ sizeMax) (hcx : sc.names.lookup x = some .local) (hcl : cenv.locals = C)
    (ht : ∀ ρ H, SimB prog w h₀ A cenv sc ρ (tstT ifs cenv true) H (tst ρ H))
    (he : ∀ ρ H, Sim prog w h₀ A cenv sc ρ (eval elt cenv) H (el ρ H) false)
    (hDC : D ≠ C) (hIC : I ∉ ownA cenv) (hID : I ≠ D) (hDo : D ∉ ownA cenv) (hX : Lv A X σ s.heap) (hI0 : h₀.get? I = none) (hD0 : h₀.get? D = none) (hIσ : I ∉ σ)
    (hit : IterAt src xs I 0 σ (D :: X) s.heap) (hD : s.heap.get? D = some (listO [] 0)) (ok : EnvOk h₀ cenv sc (without ρ x) σ (D :: X) s.heap) (inv : InvH h₀ H₀ σ (D :: X) s.heap)
    (e : compL src xs tst el x ρ xs H₀ = some (ys, H'))
    (hR : ∀ σ' h' tk vs n m, Ext [C, D, I] σ σ' s.heap h' → InvH h₀ H' σ' (D :: X) h' → h'.get? D = some (listO vs n) → CvL h' σ' (D :: X) ys vs → h'.Ns C m → C ∉ σ' → I ∉ σ' → (∃ o, h'.get? I = some o ∧ ¬ Obj.isData o) → ∀ h'', Heap.ExtBut I h' h'' → R (.ok .next) { s with heap := h'', toks := tk }) :
    codeAny (model prog w) A (.compLoop (.ListComp elt [⟨.Name x px, iter, ifs, 0⟩] sc pos) 0 (.ref I) (.ref D) cenv) R s := by
  refine codeAny_compLoop_tests (CompAt h₀ C D I src xs ys tst el x ρ cenv sc H' s σ X) ?_ (xs.length + 1) ⟨0, H₀, σ, s.heap, s.toks, [], ys, [], 0, rfl, Nat.zero_le _, rfl, hit, hIσ, hD, .nil, ok, inv, e, rfl, Nat.le_refl _, Ext.refl _ _ _⟩
  rintro k s' ⟨i, H1, σ1, h1, tk, done, rest, vs, n, rfl, hi, rfl, it, hI1, hD1, cd, ok1, inv1, e1, rfl, hdl, E1⟩
  have hCo : C ∈ ownA cenv := by rw [← hcl]; exact List.mem_cons_self
  have hC1 := (ok1.own C hCo).1
  by_cases hlt : i < xs.length
  case neg =>
    have hi' : i = xs.length := by lia
    subst hi'
    rw [List.drop_length] at e1
    obtain ⟨st, e1⟩ := stop_some e1
    cases e1
    obtain ⟨m, hn, _⟩ := ok1.ns
    rw [hcl] at hn
    refine iter_done hh inv1 st it fun h'' hb => ?_
    rw [List.append_nil] at hR
    exact hR σ1 h1 tk vs n m E1 inv1 hD1 cd hn hC1 hI1 it.there h'' hb
  case pos =>
    have hx : xs[i]? = some xs[i] := List.getElem?_eq_getElem hlt
    rw [List.drop_eq_getElem_cons hlt] at e1
    generalize xs[i] = v at hx e1
    obtain ⟨st, e1⟩ := stop_some e1
    obtain ⟨b, H2, e2, e3⟩ := bnd_some e1
    refine iter_next hI1 inv1 st it hx fun cv h2 tk2 sb2 it2 cv2 => ?_
    have oI2 : ∃ o, h2.get? I = some o := let ⟨o, ho, _⟩ := it2.there; ⟨o, ho⟩
    have E2 : Ext [I] σ1 σ1 h1 h2 := .one sb2 oI2 it.noD hI1
    have nd2 : NoData h1 (D :: X) [I] := .one it.there
    have ok2 := ok1.extO E2 nd2 (fun b m q => hIC (List.mem_singleton.mp q ▸ m))
    have inv2 := inv1.stay E2 (fun b o e q => (sb2.2 b fun r => q (List.mem_singleton.mpr r)).trans e) (fun a ma o e => (sb2.2 a (fun r => hI1 (r ▸ ma))).trans e) nd2 (fun a m => List.mem_singleton.mp m ▸ hI0)
    have hD2 : h2.get? D = some (listO vs n) := (sb2.2 D hID.symm).trans hD1
    have cd2 := cd.ext E2 nd2
    have E12 : Ext [C, D, I] σ σ1 s.heap h2 := E1.trans (E2.own fun a m => List.mem_cons_of_mem _ (List.mem_cons_of_mem _ m))
    have hX2 : Lv A (D :: X) σ1 h2 := (hX.ext E12).cons ⟨_, hD2⟩
    clear E2 nd2 cd E1 ok1 inv1 hD1 it sb2
    show wpAny _ _ (assign (.Name x px) cenv cv) _ _ _
    refine wpAny_assign_Name ?_
    refine store_sound (s := { s with heap := h2, toks := tk2 }) ok2 inv2 (x := x) (by unfold isSto; rw [hcx]) cv2 fun a h3 tk3 ma ha E3 ok3 inv3 => ?_
    have ha' : C = a := hcl.symm.trans (ha hcx).symm
    subst ha'
    rw [upd_without] at ok3
    have ndC : NoData h2 (D :: X) [C] := by obtain ⟨m2, hn2, _⟩ := ok2.ns; rw [hcl] at hn2; exact .ns hn2
    have hX3 : Lv A (D :: X) _ h3 := hX2.ext E3
    have hD3 : h3.get? D = some (listO vs n) := E3.keep _ _ hD2 (fun m => inv2.apart _ m List.mem_cons_self) (fun m => hDC (List.mem_singleton.mp m)) noDict_list
    have cd3 := cd2.ext E3 ndC
    have nd2' : NoData h2 (D :: X) [C, D] := fun a m hx o e d => by
      rcases List.mem_cons.mp m with rfl | m
      · exact ndC _ (List.mem_singleton.mpr rfl) hx o e d
      · rw [List.mem_singleton.mp m] at hx; exact hx List.mem_cons_self
    refine ht (upd ρ x v) H1 b H2 e2 σ1 (D :: X) { s with heap := h3, toks := tk3 } _ _ ok3 inv3 hX3 fun σ4 h4 tk4 E4 inv4 => ?_
    have ok4 := ok3.ext E4
    have cd4 := cd3.ext E4 NoData.nil
    have hD4 : h4.get? D = some (listO vs n) := E4.keep _ _ hD3 (fun m => inv3.apart _ m List.mem_cons_self) List.not_mem_nil noDict_list
    have E24 : Ext [C, D] σ1 σ4 h2 h4 := (E3.own (fun a m => by rw [List.mem_singleton.mp m]; exact List.mem_cons_self)).trans (E4.own (fun _ m => nomatch m))
    have hICD : I ∉ [C, D] := fun m => by
      rcases List.mem_cons.mp m with q | m
      · exact hIC (q ▸ hCo)
      · exact hID (List.mem_singleton.mp m)
    have Etot : ∀ {σ' h'}, Ext [C, D] σ1 σ' h2 h' → Ext [C, D, I] σ σ' s.heap h' := fun E => E12.trans (E.own fun a m => by
      rcases List.mem_cons.mp m with rfl | m
      · exact List.mem_cons_self
      · exact List.mem_cons_of_mem _ (List.mem_cons.mpr (.inl (List.mem_singleton.mp m))))
    clear ok2 inv2 hD2 cd2 hX2 E3 ok3 inv3 hD3 cd3 ndC
    cases b with
    | false =>
      simp only [Bool.false_eq_true, if_false]
      exact ⟨xs.length + 1 - (i + 1), by lia, ⟨i + 1, H2, σ4, h4, tk4, done, rest, vs, n, rfl, by lia, rfl, it2.ext E24 nd2' hI1 hICD, E24.notNew hI1 oI2, hD4, cd4, ok4.without, inv4, e3, rfl, by lia, Etot E24⟩⟩
    | true =>
      simp only [if_true]
      obtain ⟨y, H3, e4, e5⟩ := bnd_some e3
      obtain ⟨rest', H4, e6, e7⟩ := bnd_some e5
      cases e7
      refine he (upd ρ x v) H2 y H3 e4 σ4 (D :: X) { s with heap := h4, toks := tk4 } _ _ ok4 inv4 (xlive hX3 E4) fun cy σ5 h5 tk5 E5 inv5 cvy _ => ?_
      have hD5 : h5.get? D = some (listO vs n) := E5.keep _ _ hD4 (fun m => inv4.apart _ m List.mem_cons_self) List.not_mem_nil noDict_list
      have cd5 := (cd4.ext E5 NoData.nil).append (.cons cvy .nil)
      have ok5 := ok4.ext E5
      have E25 := E24.trans (E5.own (fun _ m => nomatch m))
      clear E24 ok4 inv4 hD4 cd4 E5 E4 hX3
      have hlen : vs.length + 1 = done.length + 1 := by
        have := cd5.length
        rw [List.length_append, List.length_append] at this
        exact this
      refine wpAny_list_append_plain (items := vs.toArray) ⟨n, hD5⟩ (fun h6 hp6 sb6 => ?_) (by simp only [List.size_toArray]; unfold sizeMax at hsz; unfold sizeLine; lia)
      obtain ⟨n6, hD6⟩ := hp6
      have E6 : Ext [D] σ5 σ5 h5 h6 := .one sb6 ⟨_, hD6⟩ (fun o e => by rw [hD5] at e; cases e; exact noDict_list) fun m => inv5.apart _ m List.mem_cons_self
      have nd6 : NoData h5 (D :: X) [D] := fun a m hx => absurd (List.mem_singleton.mp m ▸ List.mem_cons_self) hx
      have ok6 := ok5.extO E6 nd6 (fun b m q => hDo (List.mem_singleton.mp q ▸ m))
      have inv6 := inv5.stay E6 (fun b o e q => (sb6.2 b fun r => q (List.mem_singleton.mpr r)).trans e) (fun a ma o e => (sb6.2 a (fun r => inv5.apart a ma (r ▸ List.mem_cons_self))).trans e) nd6 (fun a m => List.mem_singleton.mp m ▸ hD0)
      have E26 : Ext [C, D] σ1 σ5 h2 h6 := E25.trans (E6.own (fun a m => List.mem_cons_of_mem _ m))
      exact ⟨xs.length + 1 - (i + 1), by lia, ⟨i + 1, H3, σ5, h6, tk5, done ++ [y], rest', vs ++ [cy], n6, rfl, by lia, rfl, it2.ext E26 nd2' hI1 hICD, E26.notNew hI1 oI2, by rw [hD6]; simp, cd5.ext E6 nd6, ok6.without, inv6, e6, by simp, by simp; lia, Etot E26⟩⟩
end
end Mine

namespace Mine
open PySem PyProof.Rows PySem.Calls

section
variable {prog : Program} {w : World} {h₀ : Heap} {A : Around} {env : Env} {fsc sc : Scope} {ρ : Loc}

theorem comp_core {elt iter : Expr} {x : Str} {px : Pos} {ifs : List Expr} {pos pos' : Pos} {tst : Loc → HP → R Bool} {el : Loc → HP → R AV} {it : HP → R AV} {ys : List AV} {H H' : HP} {s : Shared} {σ X : List Addr} {use : Option (Value → Sem Unit)} {Q E : Value → Shared → Prop}
    (hh : A.handled = none) (cs : CompScope fsc sc x) (hset : ∀ x, foldedSetIterable iter env x = pure x)
    (hi : ∀ H, Sim prog w h₀ A env fsc ρ (eval iter env) H (it H) false)
    (ht : ∀ env' ρ H, SimB prog w h₀ A env' sc ρ (tstT ifs env' true) H (tst ρ H))
    (he : ∀ env' ρ H, Sim prog w h₀ A env' sc ρ (eval elt env') H (el ρ H) false)
    (e : compR tst el x ρ it H = some (ys, H')) (ok : EnvOk h₀ env fsc ρ σ X s.heap) (inv : InvH h₀ H σ X s.heap) (hX : Lv A X σ s.heap)
    (k : ∀ D C σ' h' tk vs n m, CompEnd h₀ σ X s H' ys D C σ' h' vs n m → compPost (model prog w) A E use Q (.ref D) C (.ok .next) { s with heap := h', toks := tk }) :
    wpAny (model prog w) A (comprehension (.ListComp elt [⟨.Name x px, iter, ifs, 0⟩] sc pos) sc env pos' (newList []) false (eval iter env) use) Q E s := by
  obtain ⟨src, H1, e1, e'⟩ := bnd_some e
  obtain ⟨xs, H2, e2, e3⟩ := bnd_some e'
  obtain ⟨e4, rfl⟩ := lft_eq e2
  split at e3
  case isFalse => cases e3
  rename_i hsz
  obtain ⟨cl, hclos, hcl, hfr⟩ := closure_ok (env := env) (sc := sc) (fun y m q => by
    obtain ⟨c, ov, hl, _⟩ := ok.cells y.1 (ok.cel y.1 (cs.free y m q)); exact ⟨c, hl⟩)
  refine wpAny_comprehension_free rfl hset hclos cs.kind (fun y m q => (cs.locs y m q).1) ?_
  refine hi H src H2 e1 σ X s _ E ok inv hX fun cv σ1 h1 tk1 E1 inv1 cv1 _ => ?_
  refine iter_start (s := { s with heap := h1, toks := tk1 }) inv1 cv1 e4 fun I h2 hI hk2 it2 => ?_
  refine wpAny_newObj_type (wpAny_newFunctionEnv cs.cell (by intro y hy; simp at hy) (fun h4 hns4 hsb4 => ?_) cs.kind)
  dsimp only at hI hns4 hsb4 ⊢
  generalize hH3 : h2.push { cls := .type "list", dict := none, data := .seq ([] : List Value).toArray } = h3 at hns4 hsb4 ⊢
  have hC : h3.objs.size = h2.objs.size + 1 := by rw [← hH3, Heap.size_push]
  have hD3 : h3.get? h2.objs.size = some (listO [] 0) := by rw [← hH3]; exact Heap.get?_push_size _ rfl
  have hk3 : ∀ b o, h2.get? b = some o → h3.get? b = some o := fun b o e => by rw [← hH3]; exact Heap.get?_push_of_some _ e
  have hD2 : h2.get? h2.objs.size = none := get_size_none _
  generalize h2.objs.size = D at hC hD3 hD2 ⊢
  have hDC : D ≠ h3.objs.size := by lia
  have hC3 : h3.get? h3.objs.size = none := get_size_none _
  have hk4 : ∀ b o, h3.get? b = some o → h4.get? b = some o := fun b o e => hsb4.extBut b o (fun q => by rw [q, hC3] at e; cases e) (Heap.get?_push_of_some _ e)
  generalize h3.objs.size = C at hDC hC3 hns4 ⊢
  have back : ∀ {h h' : Heap} {a : Addr}, (∀ b o, h.get? b = some o → h'.get? b = some o) → h'.get? a = none → h.get? a = none := fun {h h' a} k n => by
    cases q : h.get? a with
    | none => rfl
    | some o => rw [k _ _ q] at n; cases n
  have h2C : h2.get? C = none := back hk3 hC3
  have h1D : h1.get? D = none := back hk2 hD2
  have h1C : h1.get? C = none := back hk2 h2C
  have inv2 : InvH h₀ H2 σ1 X h2 := inv1.keeps hk2
  have inv3 : InvH h₀ H2 σ1 (D :: X) h4 := ((inv2.aside hD2).keeps hk3).keeps hk4
  have hX4 : Lv A X _ h4 := (((xlive hX E1).keeps hk2).keeps hk3).keeps hk4
  have k14 : ∀ b o, h1.get? b = some o → h4.get? b = some o := fun b o q => hk4 _ _ (hk3 _ _ (hk2 _ _ q))
  have ok1 := ok.ext E1
  have ok4 : EnvOk h₀ env fsc ρ σ1 (D :: X) h4 := (ok1.aside h1D).ext (Ext.of_keeps k14)
  have notin : ∀ a, h1.get? a = none → a ∉ σ1 := fun a n m => by obtain ⟨o, q⟩ := inv1.there m; rw [n] at q; cases q
  have low : ∀ a, h1.get? a = none → h₀.get? a = none := fun a n => back inv1.keep n
  have okc : EnvOk h₀ (compEnvC sc cl C env) sc (without ρ x) σ1 (D :: X) h4 := ok4.comp cs hcl hfr hns4 (notin C h1C) (low C h1C)
  have ownNe : ∀ a, a ≠ C → h1.get? a = none → a ∉ ownA (compEnvC sc cl C env) := fun a ne n m => by
    rcases List.mem_cons.mp m with q | m
    · exact ne q
    · obtain ⟨⟨y, c⟩, hm, q⟩ := List.mem_map.mp m
      simp only at q; subst q
      obtain ⟨o, q⟩ := ok1.ownThere c (List.mem_cons_of_mem _ (List.mem_map.mpr ⟨_, mem_of_lookup (hcl _ _ hm), rfl⟩))
      rw [n] at q; cases q
  have hIthere : ∃ o, h2.get? I = some o := let ⟨o, ho, _⟩ := it2.there; ⟨o, ho⟩
  have hID : I ≠ D := fun q => by obtain ⟨o, ho⟩ := hIthere; rw [q, hD2] at ho; cases ho
  have hIC : I ≠ C := fun q => by obtain ⟨o, ho⟩ := hIthere; rw [q, h2C] at ho; cases ho
  have it4 : IterAt src xs I 0 σ1 (D :: X) h4 := by
    cases src <;> first | exact it2.elim | skip
    · obtain ⟨ax, vs, n, ⟨o, ho, hc⟩, hg, q1, q2, r⟩ := it2
      refine ⟨ax, vs, n, ⟨o, hk4 _ _ (hk3 _ _ ho), hc⟩, hk4 _ _ (hk3 _ _ hg), q1, fun m => ?_, ((r.aside hD2).keeps hk3).keeps hk4⟩
      rcases List.mem_cons.mp m with q | m
      · rw [q, hD2] at hg; cases hg
      · exact q2 m
    · obtain ⟨ax, vs, n, ⟨o, ho, hc⟩, hg, q1, q2, r⟩ := it2
      refine ⟨ax, vs, n, ⟨o, hk4 _ _ (hk3 _ _ ho), hc⟩, hk4 _ _ (hk3 _ _ hg), q1, fun m => ?_, ((r.aside hD2).keeps hk3).keeps hk4⟩
      rcases List.mem_cons.mp m with q | m
      · rw [q, hD2] at hg; cases hg
      · exact q2 m
    · exact ⟨it2.1, hk4 _ _ (hk3 _ _ it2.2)⟩
    · obtain ⟨ax, ⟨o, ho, hc⟩, hk⟩ := it2
      exact ⟨ax, ⟨o, hk4 _ _ (hk3 _ _ ho), hc⟩, ((hk.aside hD2).keeps hk3).keeps hk4⟩
  have main : ∀ tk4, codeAny (model prog w) A (.compLoop (.ListComp elt [⟨.Name x px, iter, ifs, 0⟩] sc pos) 0 (.ref I) (.ref D) (compEnvC sc cl C env)) (compPost (model prog w) A E use Q (.ref D) C) { s with heap := h4, toks := tk4 } := fun tk4 => by
    refine comp_loop (C := C) (s := { s with heap := h4, toks := tk4 }) hh hsz cs.own rfl (ht _) (he _) hDC (ownNe I hIC hI) hID (ownNe D hDC h1D) hX4 (low I hI) (low D h1D) (notin I hI) it4 (hk4 _ _ hD3) okc inv3 e3 fun σ' h' tk vs n m E4 inv' hD' cv' hn' hC' hI' hIn h'' hb => ?_
    have kb : ∀ b o, b ∉ [I] → h'.get? b = some o → h''.get? b = some o := fun b o q r => hb b o (fun q' => q (List.mem_singleton.mpr q')) r
    have E14 : Ext [C, D, I] σ1 σ' h1 h' := (Ext.of_keeps k14).trans E4
    have E14' : Ext [] σ1 σ' h1 h' := E14.drop fun a m => by
      right
      simp only [List.mem_cons, List.not_mem_nil, or_false] at m
      rcases m with rfl | rfl | rfl
      · exact h1C
      · exact h1D
      · exact hI
    have ndI : NoData h' (D :: X) [I] := .one hIn
    have E1'' : Ext [] σ1 σ' h1 h'' := E14'.but (dead := [I]) (fun a m => List.mem_singleton.mp m ▸ hI) kb
    refine k D C σ' h'' tk vs n m ⟨E1.trans E1'', inv'.but kb ndI (fun a m => List.mem_singleton.mp m ▸ low I hI) (fun a m => List.mem_singleton.mp m ▸ hI'), kb _ _ (fun m => hID (List.mem_singleton.mp m).symm) hD', cv'.but (fun a m => List.mem_singleton.mp m ▸ hI') kb ndI,
      hn'.at' fun o q => kb _ _ (fun m => hIC (List.mem_singleton.mp m).symm) q, ?_, ?_, hDC, low C h1C, low D h1D, hC', Nat.le_trans (compL_length e3) hsz⟩
    · exact E1.none_back h1D
    · exact E1.none_back h1C
  exact codeAny_compStart_list (main _) (iter_self it4 (main _))

theorem CompEnd.letGo {σ σ' X : List Addr} {s : Shared} {H' : HP} {ys : List AV} {D C : Addr} {h' h'' : Heap} {vs : List Value} {n : Nat} {m : Str → Option Value} (c : CompEnd h₀ σ X s H' ys D C σ' h' vs n m) (hs : Heap.SameBut C h' h'') :
    Ext [] σ σ' s.heap h'' ∧ InvH h₀ H' σ' (D :: X) h'' ∧ h''.get? D = some (listO vs n) ∧ CvL h'' σ' (D :: X) ys vs := by
  have kb : ∀ b o, b ∉ [C] → h'.get? b = some o → h''.get? b = some o := fun b o q r => (hs.2 b (fun q' => q (List.mem_singleton.mpr q'))).trans r
  have nd : NoData h' (D :: X) [C] := .ns c.ns
  exact ⟨c.ext.but (dead := [C]) (fun a m => List.mem_singleton.mp m ▸ c.newC) kb, c.inv.but kb nd (fun a m => List.mem_singleton.mp m ▸ c.c0) (fun a m => List.mem_singleton.mp m ▸ c.cσ), kb _ _ (fun m => c.ne (List.mem_singleton.mp m)) c.at', c.cvs.but (fun a m => List.mem_singleton.mp m ▸ c.cσ) kb nd⟩

/-- the frozen and the made value of a comprehension -/
theorem CompEnd.frozen {σ σ' X : List Addr} {s : Shared} {H' : HP} {ys : List AV} {D C : Addr} {h' h'' : Heap} {vs : List Value} {n : Nat} {m : Str → Option Value} (c : CompEnd h₀ σ X s H' ys D C σ' h' vs n m) (hX : Lv A X σ s.heap)
    (e : h''.get? D = some (listO vs n)) (inv : InvH h₀ H' σ' (D :: X) h'') (cv : CvL h'' σ' (D :: X) ys vs) : InvH h₀ H' σ' X h'' ∧ Cv h'' σ' X (.list ys) (.ref D) :=
  ⟨inv.less (fun a m => List.mem_cons_of_mem _ m), .list e (fun m => inv.apart D m List.mem_cons_self) (fun m => by obtain ⟨o, q⟩ := hX.x D m; rw [c.newD] at q; cases q) c.size (cv.less fun a m => List.mem_cons_of_mem _ m)⟩

theorem CompEnd.made {σ σ' X : List Addr} {s : Shared} {H' : HP} {ys : List AV} {D C : Addr} {h' h'' : Heap} {vs : List Value} {n : Nat} {m : Str → Option Value} (c : CompEnd h₀ σ X s H' ys D C σ' h' vs n m) (hX : Lv A X σ s.heap)
    (e : h''.get? D = some (listO vs n)) (inv : InvH h₀ H' σ' (D :: X) h'') (cv : CvL h'' σ' (D :: X) ys vs) (x : Ext [] σ σ' s.heap h'') :
    InvH h₀ (H' ++ [ys]) (σ' ++ [D]) X h'' ∧ Cv h'' (σ' ++ [D]) X (.ref H'.length) (.ref D) ∧ Ext [] σ (σ' ++ [D]) s.heap h'' :=
  ⟨inv.join e (fun m => by obtain ⟨o, q⟩ := hX.x D m; rw [c.newD] at q; cases q) c.d0 c.size cv, .ref (by rw [← inv.len]; simp) e noDict_list,
    ⟨x.keep, x.slot, x.live, x.pre.trans (List.prefix_append _ _), fun a m => (List.mem_append.mp m).elim (x.new a) fun m => .inr (List.mem_singleton.mp m ▸ c.newD), x.kind⟩⟩

theorem sim_comp {elt iter : Expr} {x : Str} {px : Pos} {ifs : List Expr} {pos : Pos} {tst : Loc → HP → R Bool} {el : Loc → HP → R AV} {it : HP → R AV} {H : HP}
    (hh : A.handled = none) (cs : CompScope fsc sc x) (hset : ∀ x, foldedSetIterable iter env x = pure x)
    (hi : ∀ H, Sim prog w h₀ A env fsc ρ (eval iter env) H (it H) false)
    (ht : ∀ env' ρ H, SimB prog w h₀ A env' sc ρ (tstT ifs env' true) H (tst ρ H))
    (he : ∀ env' ρ H, Sim prog w h₀ A env' sc ρ (eval elt env') H (el ρ H) false) :
    Sim prog w h₀ A env fsc ρ (eval (.ListComp elt [⟨.Name x px, iter, ifs, 0⟩] sc pos) env) H (frozenL (compR tst el x ρ it H)) true := by
  intro v H' e σ X s Q E ok inv hX k
  obtain ⟨ys, H1, e1, e2⟩ := bnd_some e
  cases e2
  rw [eval_ListComp]
  refine comp_core (use := none) hh cs hset hi ht he e1 ok inv hX fun D C σ' h' tk vs n m c => ?_
  refine ⟨m, c.ns, fun h'' hs => ?_⟩
  obtain ⟨E1, i1, d1, c1⟩ := c.letGo hs
  obtain ⟨i2, cv⟩ := c.frozen hX d1 i1 c1
  exact k _ σ' h'' tk E1 i2 cv fun _ xs a ev ea => by cases ea; exact ⟨c.newD, i1⟩

theorem sim_compM {elt iter : Expr} {x : Str} {px : Pos} {ifs : List Expr} {pos : Pos} {tst : Loc → HP → R Bool} {el : Loc → HP → R AV} {it : HP → R AV} {H : HP} {fr : Bool}
    (hh : A.handled = none) (cs : CompScope fsc sc x) (hset : ∀ x, foldedSetIterable iter env x = pure x)
    (hi : ∀ H, Sim prog w h₀ A env fsc ρ (eval iter env) H (it H) false)
    (ht : ∀ env' ρ H, SimB prog w h₀ A env' sc ρ (tstT ifs env' true) H (tst ρ H))
    (he : ∀ env' ρ H, Sim prog w h₀ A env' sc ρ (eval elt env') H (el ρ H) false) :
    Sim prog w h₀ A env fsc ρ (eval (.ListComp elt [⟨.Name x px, iter, ifs, 0⟩] sc pos) env) H (madeL (compR tst el x ρ it H)) fr := by
  intro v H' e σ X s Q E ok inv hX k
  obtain ⟨ys, H1, e1, e2⟩ := bnd_some e
  cases e2
  rw [eval_ListComp]
  refine comp_core (use := none) hh cs hset hi ht he e1 ok inv hX fun D C σ' h' tk vs n m c => ?_
  refine ⟨m, c.ns, fun h'' hs => ?_⟩
  obtain ⟨E1, i1, d1, c1⟩ := c.letGo hs
  obtain ⟨i2, cv, E2⟩ := c.made hX d1 i1 c1 E1
  exact k _ _ h'' tk E2 i2 cv fun _ xs a ev ea => by cases ev
end
end Mine

namespace Mine
open PySem PyProof.Rows PySem.Calls

theorem scal_ref {h : Heap} {σ X : List Addr} {v : AV} {b : Addr} (c : Cv h σ X v (.ref b)) (e : scal v = true) : False := by
  cases c <;> cases e
theorem CvL.build {h : Heap} {σ X : List Addr} : ∀ {xs : List AV} {vs : List Value}, vs.length = xs.length → (∀ (j : Nat) x v, xs[j]? = some x → vs[j]? = some v → Cv h σ X x v) → CvL h σ X xs vs
  | [], [], _, _ => .nil
  | [], _ :: _, e, _ => nomatch e
  | _ :: _, [], e, _ => nomatch e
  | x :: xs, v :: vs, e, f => .cons (f 0 x v rfl rfl) (CvL.build (by simpa using e) fun j x v h1 h2 => f (j + 1) x v h1 h2)
theorem Cv.scal {h : Heap} {σ X Y : List Addr} {v : AV} {c : Value} (q : Cv h σ X v c) (e : scal v = true) : Cv h σ Y v c := by
  cases q with
  | none => exact .none
  | bool b => exact .bool b
  | int i t => exact .int i t
  | str s t => exact .str s t
  | _ => cases e
theorem CvL.scal {h : Heap} {σ X Y : List Addr} {xs : List AV} {vs : List Value} (q : CvL h σ X xs vs) (e : xs.all scal = true) : CvL h σ Y xs vs :=
  CvL.build q.length fun j x v h1 h2 => by
    obtain ⟨v', e1, c⟩ := q.get h1
    rw [h2] at e1; cases e1
    exact c.scal (List.all_eq_true.mp e x (List.mem_of_getElem? h1))
/-- a list whose items are plain, or lists of plain ones: none of them is the list itself -/
theorem CvL.scal2 {h : Heap} {σ X : List Addr} {xs : List AV} {vs : List Value} {a : Addr} {n : Nat} (hg : h.get? a = some (listO vs n)) (q : CvL h σ X xs vs) (e : xs.all scal2 = true) : CvL h σ (a :: X) xs vs :=
  CvL.build q.length fun j x v h1 h2 => by
    obtain ⟨v', e1, c⟩ := q.get h1
    rw [h2] at e1; cases e1
    have ex := List.all_eq_true.mp e x (List.mem_of_getElem? h1)
    rcases (Bool.or_eq_true_iff.mp ex) with ex | ex
    · exact c.scal ex
    · cases c with
      | @list ys b ws m hb b1 b2 bl r =>
        have ex : ys.all Mine.scal = true := ex
        refine .list hb b1 (fun mm => (List.mem_cons.mp mm).elim (fun q => ?_) b2) bl (r.scal ex)
        subst q
        rw [hg] at hb
        have e2 : vs = ws := by
          have := congrArg (fun o => o.map (·.data)) hb
          simp [listO] at this
          exact this.1
        subst e2
        obtain ⟨hj, _⟩ := List.getElem?_eq_some_iff.mp h2
        rw [r.length] at hj
        obtain ⟨u, hu, cu⟩ := r.get (List.getElem?_eq_getElem hj)
        rw [h2] at hu; cases hu
        exact scal_ref cu (List.all_eq_true.mp ex _ (List.getElem_mem hj))
      | _ => cases ex

section
variable {prog : Program} {w : World} {h₀ : Heap} {A : Around} {env : Env} {sc : Scope} {ρ : Loc}

theorem sim_made {t : Sem Value} {H : HP} {r : R AV} {fresh : Bool} (hs : Sim prog w h₀ A env sc ρ t H r fresh) : Sim prog w h₀ A env sc ρ t H (madeV fresh r) false := by
  cases fresh with
  | false => exact hs
  | true =>
  intro v H' e σ X s Q E ok I hX k
  obtain ⟨v0, H1, e1, e2⟩ := bnd_some e
  refine hs v0 H1 e1 σ X s Q E ok I hX fun cv σ' h' tk E1 I1 c1 f => ?_
  have same : some (v0, H1) = some (v, H') → Q cv { s with heap := h', toks := tk } := by
    intro q; cases q
    exact k cv σ' h' tk E1 I1 c1 (fun q => nomatch q)
  cases v0 with
  | list xs =>
    have e2 : (if xs.all scal2 = true then some (AV.ref H1.length, H1 ++ [xs]) else none) = some (v, H') := e2
    split at e2
    case isFalse => cases e2
    rename_i hsc
    cases e2
    cases c1 with
    | list hg h1 h2 hl r =>
      rename_i a vs n
      obtain ⟨na, ia⟩ := f rfl xs a rfl rfl
      have low : h₀.get? a = none := by
        cases q : h₀.get? a with
        | none => rfl
        | some o => rw [I.keep _ _ q] at na; cases na
      exact k (.ref a) (σ' ++ [a]) h' tk ⟨E1.keep, E1.slot, E1.live, E1.pre.trans (List.prefix_append _ _), fun b m => (List.mem_append.mp m).elim (E1.new b) fun m => .inr (List.mem_singleton.mp m ▸ na), E1.kind⟩
        (ia.join hg h2 low hl (r.scal2 hg hsc)) (.ref (by rw [← I1.len]; simp) hg noDict_list) (fun q => nomatch q)
  | _ => exact same e2
end
end Mine

namespace Mine
open PySem PyProof.Rows PySem.Calls

section
variable {prog : Program} {w : World} {h₀ : Heap} {A : Around} {env : Env} {sc : Scope} {ρ : Loc}
  {C : Cfg} {p : Program} {loose : List Str} {mean : ExcName → Option Value} {mg mb : Str → Option Value}

theorem Sim.none {t : Sem Value} {H : HP} {fr : Bool} : Sim prog w h₀ A env sc ρ t H .none fr := fun _ _ e => nomatch e
theorem SimB.none {t : Sem Bool} {H : HP} : SimB prog w h₀ A env sc ρ t H .none := fun _ _ e => nomatch e
theorem Sim.of {t : Sem Value} {H : HP} {r : R AV} {fr : Bool} (h : Sim prog w h₀ A env sc ρ t H r true) : Sim prog w h₀ A env sc ρ t H r fr := by
  cases fr
  · exact h.weaken
  · exact h

theorem fn_notBlt {g : Str} {d : DefRec} (G : Glb C p loose mean mg mb h₀) (hd : fnNames C g = some d) : g ∉ bltNames := fun hx => by
  have hmem : d ∈ C.fns := List.mem_of_find?_eq_some hd
  have hname : d.name = g := by
    have := List.find?_some (p := fun d : DefRec => decide (d.name = g)) hd
    exact of_decide_eq_true this
  obtain ⟨fa, o, pm, code, doc, hmg, _⟩ := G.top.fn d (G.fns d hmem)
  rw [hname, G.blt g hx] at hmg
  cases hmg

theorem folded_id {e : Expr} (h : notSet e = true) (x : Value) : foldedSetIterable e env x = pure x := by
  cases e <;> first | rfl | exact Bool.noConfusion h

theorem evalE_star {Φ : Phi} {d : Nat} {fm : Fm} {e : Expr} {q : Pos} {ρ : Loc} {H : HP} : evalE C Φ d fm (.Starred e q) ρ H = none := by
  cases d <;> rfl
theorem evalM_star {Φ : Phi} {d : Nat} {fm : Fm} {e : Expr} {q : Pos} {ρ : Loc} {H : HP} : evalM C Φ d fm (.Starred e q) ρ H = none := by
  cases d with
  | zero => rfl
  | succ d => exact evalE_star (d := d)
theorem compHd_of {fsc sc : Scope} {x : Str} {a : Int} {it : Expr} (h : compHd fsc sc x a it = true) : a = 0 ∧ CompScope fsc sc x ∧ ∀ env y, foldedSetIterable it env y = pure y := by
  obtain ⟨h1, h2⟩ := Bool.and_eq_true_iff.mp h
  obtain ⟨h2, h3⟩ := Bool.and_eq_true_iff.mp h2
  exact ⟨of_decide_eq_true h1, compOk_of h2, fun env => folded_id h3⟩

theorem exOne_some {t : Expr} {y : Str} (h : exOne C sc t = some y) : ∃ q, t = .Name y q ∧ isGlob sc y = true ∧ ((∃ D, (y, D) ∈ C.exc) ∨ y = "ValueError") := by
  unfold exOne at h
  split at h
  case h_2 => cases h
  rename_i n hn
  obtain ⟨q, rfl⟩ := nameOf_some hn
  split at h
  case isFalse => cases h
  rename_i hg
  cases h
  obtain ⟨h1, h2⟩ := Bool.and_eq_true_iff.mp hg
  refine ⟨q, rfl, h1, ?_⟩
  rcases Bool.or_eq_true_iff.mp h2 with h2 | h2
  · obtain ⟨D, hD⟩ := Option.isSome_iff_exists.mp h2
    exact .inl ⟨D, mem_of_lookup hD⟩
  · exact .inr (of_decide_eq_true h2)
theorem glob_load {x : Str} {v : Value} {gp : Pos} {σ X : List Addr} {s : Shared} {H : HP} {Q E : Value → Shared → Prop} (G : Glb C p loose mean mg mb h₀) (ok : EnvOk h₀ env sc ρ σ X s.heap) (I : InvH h₀ H σ X s.heap) (hg : isGlob sc x = true) (hv : mg x = some v) (hQ : Q v s) :
    wpAny (model prog w) A (eval (.Name x gp) env) Q E s := by
  obtain ⟨hk, hdb⟩ := glob_kind ok hg
  have hgl : s.heap.Ns env.globals mg := by rw [ok.gl]; exact G.top.g.keeps I.keep
  exact Name_function_global ok.kind hk (loadGlobal_global hgl hv hQ) hdb
theorem sim_isE {x t : Expr} {gp pos : Pos} {y : Str} {r : R AV} {H : HP} {fr : Bool} {g : Str} (G : Glb C p loose mean mg mb h₀) (hgi : g = "isinstance") (hg : isGlob sc g = true) (hy : exOne C sc t = some y) (hxs : noStar x = true)
    (hx : Sim prog w h₀ A env sc ρ (eval x env) H r false) : Sim prog w h₀ A env sc ρ (eval (.Call (.Name g gp) [x, t] [] pos) env) H (isE C y r) fr := by
  intro v H' e σ X s Q E ok I hX k
  obtain ⟨a, H1, e1, g1⟩ := bnd_some e
  split at g1
  case h_2 => cases g1
  rename_i D
  split at g1
  case isFalse => cases g1
  rename_i hany
  cases g1
  obtain ⟨⟨x0, D0⟩, hm0, hD0⟩ := List.any_eq_true.mp hany
  have hD0 := beq_iff_eq.mp hD0
  simp only at hD0
  subst hD0
  obtain ⟨_, bm, XD, hsub, hval⟩ := G.exc x0 D0 hm0
  subst hgi
  obtain ⟨q, rfl, hgy, hyy⟩ := exOne_some hy
  refine Call_ (blt_load G ok I hg (v := .builtin "isinstance") (by decide +kernel) (by decide +kernel) ?_) call_form
  have he : starEach [x, .Name y q] env = (false, eval x env) :: starEach [.Name y q] env := star_cons hxs
  have he2 : starEach [.Name y q] env = [(false, eval (.Name y q) env)] := rfl
  refine callWith_builtin (first := []) (by rw [he, he2]; rfl) ?_
  have go : wpAny (model prog w) A (spliced (backTo pos (starEach [x, .Name y q] env))) (fun vs s' => wpAny (model prog w) A (call (.builtin "isinstance") ([] ++ vs)) Q E s') E s := by
    refine args_cons (hx _ _ e1 σ X s _ E ok I hX fun ca σ1 h1 tk1 E1 I1 Ca _ => ?_) he
    refine args_cons ?_ he2
    cases Ca with
    | obj ho hex hσ hX' =>
      have XD1 := XD.keeps I1.keep
      have fin : ∀ tk, Q (.bool (C.sub D0 y)) { s with heap := h1, toks := tk } := fun tk => Kv.here (s := s) k E1 I1 (.bool _) (fun _ e => nomatch e)
      rcases hyy with ⟨D', hD'⟩ | rfl
      · obtain ⟨hmg, bm', XD', _, _⟩ := G.exc y D' hD'
        refine glob_load (s := { s with heap := h1, toks := tk1 }) G (ok.ext E1) I1 hgy hmg (args_nil ?_)
        exact isiE_ref (s := { s with heap := h1, toks := tk1 }) XD1 (XD'.keeps I1.keep) ho hex.1 (hsub y D' hD') fin
      · refine blt_load (s := { s with heap := h1, toks := tk1 }) G (ok.ext E1) I1 hgy (v := .type "ValueError") (by decide +kernel) (by decide +kernel) (args_nil ?_)
        rw [hval] at fin
        exact isiE_val (s := { s with heap := h1, toks := tk1 }) XD1 ho hex.1 fin
  rw [he] at go ⊢
  exact evalArgs_plain go

/-- a frame in which an exception is handled calls no def and goes through nothing -/
noncomputable def Bk (prog : Program) (w : World) (h₀ : Heap) (mg : Str → Option Value) (A : Around) (Φ : Phi) (fm : Fm) : Prop := fm.hnd = false → PhiOk prog w h₀ mg A Φ ∧ A.handled = none

theorem sim_gInt {x : Str} {pos : Pos} {sc : Scope} {H : HP} {b : Bool} (G : Glb C p loose mean mg mb h₀) : Sim prog w h₀ A env sc ρ (eval (.Name x pos) env) H (lft (gInt C sc x) H) b := by
  intro v H' e σ X s Q E ok I hX k
  obtain ⟨e1, q⟩ := lft_eq e
  subst q
  unfold gInt at e1
  split at e1
  case isFalse => cases e1
  rename_i hg
  obtain ⟨i, hi, rfl⟩ := Option.map_eq_some_iff.mp e1
  obtain ⟨cv, hmg, hr⟩ := G.top.const x _ (G.int x i hi)
  obtain ⟨t, rfl⟩ : ∃ t, cv = .int i t := by cases hr s.heap; exact ⟨_, rfl⟩
  obtain ⟨hk, hdb⟩ := glob_kind ok hg
  have hgl : s.heap.Ns env.globals mg := by rw [ok.gl]; exact G.top.g.keeps I.keep
  exact Name_function_global ok.kind hk (loadGlobal_global hgl hmg (k _ σ s.heap s.toks (Ext.refl _ _ _) I (.int _ _) (fun _ _ _ e => nomatch e))) hdb
theorem eval_sim {Φ : Phi} (G : Glb C p loose mean mg mb h₀) (hu : A.units + 100 < cLine) (hQ : PhiQ prog w h₀ mg A Φ) : ∀ (d : Nat),
    (∀ (fm : Fm) (e : Expr) (env : Env) (ρ : Loc) (H : HP), Bk prog w h₀ mg A Φ fm → Sim prog w h₀ A env fm.sc ρ (eval e env) H (evalE C Φ d fm e ρ H) (isFresh e)) ∧
    (∀ (fm : Fm) (e : Expr) (env : Env) (ρ : Loc) (H : HP), Bk prog w h₀ mg A Φ fm → SimB prog w h₀ A env fm.sc ρ (isTrue e env (eval e env)) H (evalB C Φ d fm e ρ H))
  | 0 => ⟨fun _ _ _ _ _ _ => Sim.none, fun _ _ _ _ _ _ => SimB.none⟩
  | d + 1 => by
    obtain ⟨ih, ihb⟩ := eval_sim G hu hQ d
    have ihw : ∀ (fm : Fm) (e : Expr) (env : Env) (ρ : Loc) (H : HP), Bk prog w h₀ mg A Φ fm → Sim prog w h₀ A env fm.sc ρ (eval e env) H (evalE C Φ d fm e ρ H) false := fun fm e env ρ H hB => by
      have := ih fm e env ρ H hB
      cases hf : isFresh e
      · rw [hf] at this; exact this
      · rw [hf] at this; exact this.weaken
    have hstar : ∀ (fm : Fm) (ρ : Loc) (e : Expr) (q : Pos) (H : HP), evalE C Φ d fm (.Starred e q) ρ H = none := fun fm ρ e q H => evalE_star
    refine ⟨fun fm e env ρ H hB => ?_, fun fm e env ρ H hB => ?_⟩
    · cases e with
      | Constant c k pos => exact sim_const
      | Name x pos =>
        show Sim prog w h₀ A env fm.sc ρ _ H (if isLoc fm.sc x then lkp ρ x H else lft (gInt C fm.sc x) H) _
        split
        · rename_i hx; exact sim_name hx
        · exact sim_gInt G
      | BinOp l op r pos => exact sim_bin (fun H => ihw fm l env ρ H hB) (fun H => ihw fm r env ρ H hB)
      | UnaryOp op x pos =>
        cases op with
        | Not => exact sim_notV (ihw fm x env ρ H hB)
        | USub => exact sim_neg (ihw fm x env ρ H hB)
        | _ => exact Sim.none
      | BoolOp op es pos => exact sim_boolV (f := fun e H => evalE C Φ d fm e ρ H) (pos := pos) (fun e _ H => ihw fm e env ρ H hB)
      | Compare l ops rs pos =>
        show Sim prog w h₀ A env fm.sc ρ _ H (if rs.all notSet = true then _ else none) _
        split
        · rename_i hn
          exact sim_cmp (f := fun e H => evalE C Φ d fm e ρ H) hu (fun H => ihw fm l env ρ H hB) (fun e _ H => ihw fm e env ρ H hB) (fun e m => List.all_eq_true.mp hn e m)
        · exact Sim.none
      | List es pos => exact sim_list (f := fun e H => evalE C Φ d fm e ρ H) (fun e _ H => ihw fm e env ρ H hB) (fun e q H => hstar fm ρ e q H)
      | Tuple es n pos => exact sim_tup (f := fun e H => evalE C Φ d fm e ρ H) (fun e _ H => ihw fm e env ρ H hB) (fun e q H => hstar fm ρ e q H)
      | Subscript o i pos =>
        cases i with
        | Slice lo hi st q =>
          cases st with
          | some _ => exact Sim.none
          | none =>
            refine sim_subS (fun H => ihw fm o env ρ H hB) (fun H => sim_part ?_ H) (fun H => sim_part ?_ H)
            · cases lo with
              | none => rfl
              | some e => exact fun H => ihw fm e env ρ H hB
            · cases hi with
              | none => rfl
              | some e => exact fun H => ihw fm e env ρ H hB
        | _ => exact sim_subI (fun _ _ _ _ q => nomatch q) (fun H => ihw fm o env ρ H hB) (fun H => ihw fm _ env ρ H hB)
      | ListComp elt gens sc pos =>
        cases gens with
        | nil => exact Sim.none
        | cons g gs =>
          cases gs with
          | cons _ _ => exact Sim.none
          | nil =>
            obtain ⟨tg, iter, ifs, isa⟩ := g
            cases tg with
            | Name x px =>
              show Sim prog w h₀ A env fm.sc ρ _ H (if (!fm.hnd && compHd fm.sc sc x isa iter) = true then _ else none) _
              split
              · rename_i hc
                obtain ⟨hm, hc⟩ := Bool.and_eq_true_iff.mp hc
                have hh := (hB (by simpa using hm)).2
                obtain ⟨rfl, hc, hn⟩ := compHd_of hc
                exact sim_comp (tst := fun ρ H => boolB .And (ifs.map fun e H => evalB C Φ d { fm with sc := sc } e ρ H) H) (el := fun ρ H => evalE C Φ d { fm with sc := sc } elt ρ H) (it := fun H => evalE C Φ d fm iter ρ H) hh hc (hn env) (fun H => ihw fm iter env ρ H hB)
                  (fun env' ρ H => sim_tests (f := fun e H => evalB C Φ d { fm with sc := sc } e ρ H) (fun e _ H => ihb { fm with sc := sc } e env' ρ H hB)) (fun env' ρ H => ihw { fm with sc := sc } elt env' ρ H hB)
              · exact Sim.none
            | _ => exact Sim.none
      | Call f args kws pos =>
        cases kws with
        | cons _ _ => exact Sim.none
        | nil =>
          cases f with
          | Name g gp =>
            show Sim prog w h₀ A env fm.sc ρ _ H (if isGlob fm.sc g then _ else none) _
            split
            · rename_i hg
              cases hd : fnNames C g with
              | some df =>
                have hnb := fn_notBlt G hd
                have hfr : isFresh (.Call (.Name g gp) args [] pos) = false := by
                  refine Bool.or_eq_false_iff.mpr ⟨decide_eq_false ?_, decide_eq_false ?_⟩
                  · exact fun q => hnb (q ▸ by decide +kernel)
                  · exact fun q => hnb (q ▸ by decide +kernel)
                rw [hfr]
                show Sim prog w h₀ A env fm.sc ρ _ H (if fm.hnd = true then _ else _) _
                split
                · exact sim_callP (f := fun e H => evalE C Φ d fm e ρ H) G (hQ g) hg hd (fun e _ H => ihw fm e env ρ H hB) (fun e q H => hstar fm ρ e q H)
                rename_i hm
                exact sim_callP (f := fun e H => evalE C Φ d fm e ρ H) G ((hB (by simpa using hm)).1 g) hg hd (fun e _ H => ihw fm e env ρ H hB) (fun e q H => hstar fm ρ e q H)
              | none =>
                by_cases hgi : g = "isinstance"
                · show Sim prog w h₀ A env fm.sc ρ _ H (if g = "isinstance" then _ else _) _
                  rw [if_pos hgi]
                  have hfr : isFresh (.Call (.Name g gp) args [] pos) = false := by
                    subst hgi; rfl
                  rw [hfr]
                  match args with
                  | [x, t] =>
                    show Sim prog w h₀ A env fm.sc ρ _ H (if noStar x = true then _ else none) _
                    split
                    · rename_i hx
                      cases ht : tyNames fm.sc t with
                      | none =>
                        cases hy : exOne C fm.sc t with
                        | none => exact Sim.none
                        | some y => exact sim_isE G hgi hg hy hx (ihw fm x env ρ H hB)
                      | some ts => exact sim_isi G hgi hg ht hx (ihw fm x env ρ H hB)
                    · exact Sim.none
                  | [] => exact Sim.none
                  | [_] => exact Sim.none
                  | _ :: _ :: _ :: _ => exact Sim.none
                · show Sim prog w h₀ A env fm.sc ρ _ H (if g = "isinstance" then _ else _) _
                  rw [if_neg hgi]
                  show Sim prog w h₀ A env fm.sc ρ _ H (if fm.hnd = true then none else _) _
                  split
                  · exact Sim.none
                  rename_i hm
                  exact (sim_callB (f := fun e H => evalE C Φ d fm e ρ H) G (hB (by simpa using hm)).2 hg (fun e _ H => ihw fm e env ρ H hB) (fun e q H => hstar fm ρ e q H)).of
            · exact Sim.none
          | Attribute o m ap =>
            show Sim prog w h₀ A env fm.sc ρ _ H (if mOk o ap pos args then _ else none) _
            split
            · rename_i hm
              exact sim_meth (f := fun e H => evalE C Φ d fm e ρ H) hm (fun H => ihw fm o env ρ H hB) (fun e _ H => ihw fm e env ρ H hB) (fun e q H => hstar fm ρ e q H)
            · exact Sim.none
          | _ => exact Sim.none
      | _ => exact Sim.none
    · cases e with
      | UnaryOp op x pos =>
        cases op with
        | Not => exact simB_not (ihb fm x env ρ H hB)
        | _ => exact SimB.none
      | BoolOp op es pos => exact simB_boolB (f := fun e H => evalB C Φ d fm e ρ H) (fun e _ H => ihb fm e env ρ H hB)
      | IfExp a b c pos =>
        have : evalE C Φ d fm (.IfExp a b c pos) ρ H = none := by cases d <;> rfl
        show SimB prog w h₀ A env fm.sc ρ _ H (tob (evalE C Φ d fm (.IfExp a b c pos) ρ H))
        rw [this]; exact SimB.none
      | Compare l ops rs pos =>
        show SimB prog w h₀ A env fm.sc ρ _ H (if rs.all notSet = true then _ else none)
        split
        · rename_i hn
          exact simB_cmp (f := fun e H => evalE C Φ d fm e ρ H) hu (fun H => ihw fm l env ρ H hB) (fun e _ H => ihw fm e env ρ H hB) (fun e m => List.all_eq_true.mp hn e m)
        · exact SimB.none
      | _ => exact simB_plain rfl (ihw fm _ env ρ H hB)

theorem eval_sim' {Φ : Phi} (G : Glb C p loose mean mg mb h₀) (hu : A.units + 100 < cLine) (hQ : PhiQ prog w h₀ mg A Φ) (d : Nat) (fm : Fm) (e : Expr) (env : Env) (ρ : Loc) (H : HP) (hB : Bk prog w h₀ mg A Φ fm) :
    Sim prog w h₀ A env fm.sc ρ (eval e env) H (evalE C Φ d fm e ρ H) false := by
  have := (eval_sim G hu hQ d).1 fm e env ρ H hB
  cases hf : isFresh e
  · rw [hf] at this; exact this
  · rw [hf] at this; exact this.weaken

theorem sim_newD {ks : List (Option Expr)} {vs : List Expr} {pos : Pos} {sc : Scope} {H : HP} (G : Glb C p loose mean mg mb h₀) : Sim prog w h₀ A env sc ρ (eval (.Dict ks vs pos) env) H (newD ks vs H) false := by
  intro v H' e σ X s Q E ok I hX k
  unfold newD at e
  split at e
  case isFalse => cases e
  rename_i q
  cases e
  obtain ⟨q1, q2⟩ := Bool.and_eq_true_iff.mp q
  obtain rfl := List.isEmpty_iff.mp q1
  obtain rfl := List.isEmpty_iff.mp q2
  have na := get_size_none s.heap
  have hk : ∀ b o, s.heap.get? b = some o → (s.heap.push { cls := .type "dict", data := .dict #[] }).get? b = some o := fun b o e => Heap.get?_push_of_some _ e
  have low : h₀.get? s.heap.objs.size = none := by
    cases q : h₀.get? s.heap.objs.size with
    | none => rfl
    | some o => rw [I.keep _ _ q] at na; cases na
  have hm : (s.heap.objs.size == sysModules) = false := by
    obtain ⟨o, es, ep, ho, _⟩ := G.top.g
    have h1 : mainGlobals < s.heap.objs.size := Heap.lt_size (I.keep _ _ ho)
    have h2 : sysModules < mainGlobals := by decide
    exact beq_false_of_ne (Nat.ne_of_gt (Nat.lt_trans h2 h1))
  refine wpAny_Dict_empty ?_
  exact k _ (σ ++ [s.heap.objs.size]) _ s.toks ⟨fun b o e _ _ _ => hk b o e, fun b o e _ _ => ⟨o.slots, hk b o e⟩, fun b o e => ⟨o, hk b o e, id⟩, List.prefix_append _ _, fun b m => (List.mem_append.mp m).elim .inl fun m => .inr (List.mem_singleton.mp m ▸ na), fun b o _ e => ⟨o, hk b o e, Iff.rfl⟩⟩
    (((I.aside na).keeps hk).joinO (fun m => by obtain ⟨o, q⟩ := hX.x _ m; rw [na] at q; cases q) low (.inr ⟨Nat.zero_le _, [], ⟨hm, prog, w, Heap.DictOf.new _⟩, .nil⟩))
    (.dct (by rw [← I.len]; simp) (Heap.get?_push_size _ rfl) ⟨_, _, rfl⟩) (fun q => nomatch q)
theorem evalM_sim {Φ : Phi} (G : Glb C p loose mean mg mb h₀) (hu : A.units + 100 < cLine) (hQ : PhiQ prog w h₀ mg A Φ) : ∀ (d : Nat) (fm : Fm) (e : Expr) (env : Env) (ρ : Loc) (H : HP), Bk prog w h₀ mg A Φ fm →
    Sim prog w h₀ A env fm.sc ρ (eval e env) H (evalM C Φ d fm e ρ H) false
  | 0, _, _, _, _, _, _ => Sim.none
  | d + 1, fm, e, env, ρ, H, hB => by
    have ih := fun (fm : Fm) (e : Expr) (env : Env) (ρ : Loc) (H : HP) (hB : Bk prog w h₀ mg A Φ fm) => evalM_sim G hu hQ d fm e env ρ H hB
    have ihe := fun (fm : Fm) (e : Expr) (env : Env) (ρ : Loc) (H : HP) (hB : Bk prog w h₀ mg A Φ fm) => eval_sim' G hu hQ d fm e env ρ H hB
    cases e with
    | Tuple es n pos => exact sim_tup (f := fun e H => evalM C Φ d fm e ρ H) (fun e _ H => ih fm e env ρ H hB) (fun e q H => evalM_star)
    | ListComp elt gens sc pos =>
      cases gens with
      | nil => exact Sim.none
      | cons g gs =>
        cases gs with
        | cons _ _ => exact Sim.none
        | nil =>
          obtain ⟨tg, iter, ifs, isa⟩ := g
          cases tg with
          | Name x px =>
            show Sim prog w h₀ A env fm.sc ρ _ H (if (!fm.hnd && compHd fm.sc sc x isa iter) = true then _ else none) _
            split
            · rename_i hc
              obtain ⟨hm, hc⟩ := Bool.and_eq_true_iff.mp hc
              have hh := (hB (by simpa using hm)).2
              obtain ⟨rfl, hc, hn⟩ := compHd_of hc
              exact sim_compM (tst := fun ρ H => boolB .And (ifs.map fun e H => evalB C Φ d { fm with sc := sc } e ρ H) H) (el := fun ρ H => evalM C Φ d { fm with sc := sc } elt ρ H) (it := fun H => evalE C Φ d fm iter ρ H) hh hc (hn env) (fun H => ihe fm iter env ρ H hB)
                (fun env' ρ H => sim_tests (f := fun e H => evalB C Φ d { fm with sc := sc } e ρ H) (fun e _ H => (eval_sim G hu hQ d).2 { fm with sc := sc } e env' ρ H hB)) (fun env' ρ H => ih { fm with sc := sc } elt env' ρ H hB)
            · exact Sim.none
          | _ => exact Sim.none
    | Dict ks vs pos => exact sim_newD G
    | _ => exact sim_made ((eval_sim G hu hQ d).1 fm _ env ρ H hB)
end
end Mine

namespace Mine
open PySem PyProof.Rows PySem.Calls

noncomputable def FlOk (h : Heap) (σ X : List Addr) : Fl → Flow → Prop
  | .next, .next => True
  | .ret v, .ret c => Cv h σ X v c
  | _, _ => False

noncomputable def SimS (prog : Program) (w : World) (h₀ : Heap) (A : Around) (env : Env) (sc : Scope) (t : Sem Flow) (ρ : Loc) (H : HP) (r : RS) : Prop :=
  ∀ fl ρ' H', r = some (fl, ρ', H') → ∀ (σ X : List Addr) (s : Shared) (Q : Flow → Shared → Prop) (E : Value → Shared → Prop), EnvOk h₀ env sc ρ σ X s.heap → InvH h₀ H σ X s.heap → Lv A X σ s.heap →
    (∀ cf σ' h' tk, Ext (ownA env) σ σ' s.heap h' → EnvOk h₀ env sc ρ' σ' X h' → InvH h₀ H' σ' X h' → FlOk h' σ' X fl cf → Q cf { s with heap := h', toks := tk }) → wpAny (model prog w) A t Q E s

theorem EnvOk.but {h₀ h h' : Heap} {env : Env} {sc : Scope} {ρ : Loc} {σ X dead : List Addr} (ns : ∀ a ∈ dead, a ∉ σ) (ok : EnvOk h₀ env sc ρ σ X h) (k : ∀ b o, b ∉ dead → h.get? b = some o → h'.get? b = some o) (nd : NoData h X dead) (dj : ∀ b ∈ ownA env, b ∉ dead) : EnvOk h₀ env sc ρ σ X h' where
  kind := ok.kind
  loc := ok.loc
  cel := ok.cel
  sto := ok.sto
  glb := ok.glb
  gl := ok.gl
  bl := ok.bl
  ns := by
    obtain ⟨m, n, f⟩ := ok.ns
    refine ⟨m, n.at' fun o e => k _ _ (dj _ List.mem_cons_self) e, fun x v od kk r => ?_⟩
    obtain ⟨c, hc, cv⟩ := f x v od kk r
    exact ⟨c, hc, cv.but ns k nd⟩
  cells := fun x kk => by
    obtain ⟨c, ov, hl, ⟨o, ho, hd⟩, f⟩ := ok.cells x kk
    refine ⟨c, ov, hl, ⟨o, k _ _ (dj _ (List.mem_cons_of_mem _ (List.mem_map.mpr ⟨_, mem_of_lookup hl, rfl⟩))) ho, hd⟩, fun v r => ?_⟩
    obtain ⟨cv, e, c'⟩ := f v r
    exact ⟨cv, e, c'.but ns k nd⟩
  there := fun n c m => by
    obtain ⟨ov, o, ho, hd⟩ := ok.there n c m
    exact ⟨ov, o, k _ _ (dj _ (List.mem_cons_of_mem _ (List.mem_map.mpr ⟨_, m, rfl⟩))) ho, hd⟩
  apart := ok.apart
  own := ok.own

theorem xliveO {A : Around} {own σ σ' X : List Addr} {h h' : Heap} (hX : Lv A X σ h) (E : Ext own σ σ' h h') : Lv A X σ' h' := hX.ext E

theorem sq_some {r : RS} {k : Loc → HP → RS} {x : Fl × Loc × HP} (h : sq r k = some x) : (∃ ρ H, r = some (.next, ρ, H) ∧ k ρ H = some x) ∨ (∃ v ρ H, r = some (.ret v, ρ, H) ∧ x = (.ret v, ρ, H)) := by
  unfold sq at h
  split at h
  · exact .inl ⟨_, _, rfl, h⟩
  · cases h; exact .inr ⟨_, _, _, rfl, rfl⟩
  · cases h

section
variable {prog : Program} {w : World} {h₀ : Heap} {A : Around} {env : Env} {sc : Scope} {ρ : Loc}

theorem SimS.none {t : Sem Flow} {H : HP} : SimS prog w h₀ A env sc t ρ H .none := fun _ _ _ e => nomatch e

theorem sim_pass {pos : Pos} {H : HP} : SimS prog w h₀ A env sc (exec (.Pass pos) env) ρ H (nxt ρ H) := by
  intro fl ρ' H' e σ X s Q E ok I hX k
  cases e
  exact wpAny_Pass (k _ σ s.heap s.toks (Ext.refl _ _ _) ok I trivial)

theorem sim_ret {e : Expr} {pos : Pos} {H : HP} {r : R AV} (he : Sim prog w h₀ A env sc ρ (eval e env) H r false) : SimS prog w h₀ A env sc (exec (.Return (some e) pos) env) ρ H (retS r ρ) := by
  intro fl ρ' H' e' σ X s Q E ok I hX k
  obtain ⟨v, H1, e1, g1⟩ := bnd_some e'
  cases g1
  exact wpAny_Return_some (he v _ e1 σ X s _ E ok I hX fun cv σ1 h1 tk1 E1 I1 C1 _ => k _ σ1 h1 tk1 (E1.own fun _ m => nomatch m) (ok.ext E1) I1 C1)

theorem sim_ret0 {pos : Pos} {H : HP} : SimS prog w h₀ A env sc (exec (.Return none pos) env) ρ H (retS (noneE H) ρ) := by
  intro fl ρ' H' e' σ X s Q E ok I hX k
  cases e'
  exact wpAny_Return_none (k (.ret .none) σ s.heap s.toks (Ext.refl _ _ _) ok I Cv.none)

theorem interactive_false {σ X : List Addr} {h : Heap} (ok : EnvOk h₀ env sc ρ σ X h) : interactive env = false := by
  unfold interactive
  rw [ok.kind]
  rfl

theorem sim_expr {e : Expr} {pos : Pos} {H : HP} {r : R AV} (hc : isCompD e = false) (he : Sim prog w h₀ A env sc ρ (eval e env) H r false) : SimS prog w h₀ A env sc (exec (.Expr e pos) env) ρ H (dropR r ρ) := by
  intro fl ρ' H' e' σ X s Q E ok I hX k
  obtain ⟨v, H1, e1, g1⟩ := bnd_some e'
  split at g1
  case isFalse => cases g1
  rename_i hn
  cases g1
  refine wpAny_Expr (he v _ e1 σ X s _ E ok I hX fun cv σ1 h1 tk1 E1 I1 C1 _ => ?_) (interactive_false ok) ?_
  · have hcv : cv = .none := by cases C1 <;> first | rfl | exact Bool.noConfusion hn
    subst hcv
    exact k .next σ1 h1 tk1 (E1.own fun _ m => nomatch m) (ok.ext E1) I1 trivial
  · cases e <;> first | rfl | (exact Bool.noConfusion (show (true = false) from hc))

/-! ### stores -/
theorem sim_store {x : Str} {v : AV} {cv : Value} {H : HP} {σ X : List Addr} {s : Shared} {Q : Flow → Shared → Prop} {E : Value → Shared → Prop} (ok : EnvOk h₀ env sc ρ σ X s.heap) (I : InvH h₀ H σ X s.heap) (hx : isSto sc x = true) (c : Cv s.heap σ X v cv)
    (k : ∀ h' tk, Ext (ownA env) σ σ s.heap h' → EnvOk h₀ env sc (upd ρ x v) σ X h' → InvH h₀ H σ X h' → Q .next { s with heap := h', toks := tk }) : wpAny (model prog w) A (storeName env x cv) (fun _ => Q .next) E s :=
  store_sound ok I hx c fun a h' tk ma _ E1 ok1 I1 => k h' tk (E1.own fun b m => List.mem_singleton.mp m ▸ ma) ok1 I1

theorem swaps_not {e : Expr} {x : Str} {q : Pos} {n : Nat} (hc : isCompD e = false) : swapsWith e (some (.Name x q)) n env = pure false := by
  cases e <;> first | rfl | (exact Bool.noConfusion (show (true = false) from hc))

theorem sim_asgN {x : Str} {q : Pos} {e : Expr} {pos : Pos} {H : HP} {r : R AV} (hs : swapsWith e (some (.Name x q)) pos.line env = pure false) (hx : isSto sc x = true) (he : Sim prog w h₀ A env sc ρ (eval e env) H r false) : SimS prog w h₀ A env sc (exec (.Assign [.Name x q] e pos) env) ρ H (asgN x r ρ) := by
  intro fl ρ' H' e' σ X s Q E ok I hX k
  obtain ⟨v, H1, e1, g1⟩ := bnd_some e'
  cases g1
  refine wpAny_Assign_Name (he v _ e1 σ X s _ E ok I hX fun cv σ1 h1 tk1 E1 I1 C1 _ => ?_) hs
  exact sim_store (s := { s with heap := h1, toks := tk1 }) (ok.ext E1) I1 hx C1 fun h2 tk2 E2 ok2 I2 => k _ σ1 h2 tk2 ((E1.own fun _ m => nomatch m).trans E2) ok2 I2 trivial

/-- the store of a comprehension's value, ahead of its frame's end -/
theorem sim_use {x : Str} {q : Pos} {elt iter : Expr} {y : Str} {px : Pos} {ifs : List Expr} {csc : Scope} {cpos pos : Pos} {tst : Loc → HP → R Bool} {el : Loc → HP → R AV} {it : HP → R AV} {H : HP} {mk : R (List AV) → R AV}
    (hmk : mk = frozenL ∨ mk = madeL)
    (hs : swapsWith (.ListComp elt [⟨.Name y px, iter, ifs, 0⟩] csc cpos) (some (.Name x q)) pos.line env = pure true) (hx : isSto sc x = true)
    (hh : A.handled = none) (cs : CompScope sc csc y) (hset : ∀ x, foldedSetIterable iter env x = pure x)
    (hi : ∀ H, Sim prog w h₀ A env sc ρ (eval iter env) H (it H) false)
    (ht : ∀ env' ρ H, SimB prog w h₀ A env' csc ρ (tstT ifs env' true) H (tst ρ H))
    (he : ∀ env' ρ H, Sim prog w h₀ A env' csc ρ (eval elt env') H (el ρ H) false) :
    SimS prog w h₀ A env sc (exec (.Assign [.Name x q] (.ListComp elt [⟨.Name y px, iter, ifs, 0⟩] csc cpos) pos) env) ρ H (asgN x (mk (compR tst el y ρ it H)) ρ) := by
  intro fl ρ' H' e' σ X s Q E ok I hX k
  obtain ⟨v, H1, e1, g1⟩ := bnd_some e'
  cases g1
  rw [exec_Assign_Name_used _ _ _ _ hs]
  refine wpAny_bind (wpAny_standAt (wpAny_bind ?_))
  have core : ∀ ys H2, compR tst el y ρ it H = some (ys, H2) → (∀ D C σ' h' vs n m, CompEnd h₀ σ X s H2 ys D C σ' h' vs n m →
      ∃ σ'', Ext [] σ σ'' s.heap h' ∧ InvH h₀ H' σ'' X h' ∧ Cv h' σ'' X v (.ref D) ∧ C ∉ σ'') → wpAny (model prog w) A (evalThenUse (.ListComp elt [⟨.Name y px, iter, ifs, 0⟩] csc cpos) env (assign (.Name x q) env)) (fun _ s' => wpAny (model prog w) A (pure .next) Q E s') E s := by
    intro ys H2 e2 hk
    show wpAny _ _ (do let _ ← comprehension (.ListComp elt [⟨.Name y px, iter, ifs, 0⟩] csc cpos) csc env _ (newList []) _ (eval iter env) (some (assign (.Name x q) env))) _ _ _
    refine wpAny_bind (comp_core (use := some _) hh cs hset hi ht he e2 ok I hX fun D C σ' h' tk vs n m c => ?_)
    obtain ⟨σ'', E1, I1, c1, hCσ⟩ := hk D C σ' h' vs n m c
    show wpAny _ _ (assign (.Name x q) env (.ref D)) _ _ _
    have ok1 := ok.ext E1
    have hCo : ∀ b ∈ ownA env, b ∉ [C] := fun b mb mc => by
      obtain ⟨o, ho⟩ := ok.ownThere b mb
      rw [List.mem_singleton.mp mc, c.newC] at ho; cases ho
    refine wpAny_assign_Name (store_sound (s := { s with heap := h', toks := tk }) ok1 I1 hx c1 fun a h2 tk2 ma _ E2 ok2 I2 => ?_)
    have hCa : C ∉ [a] := fun mc => hCo a ma (by rw [List.mem_singleton.mp mc]; exact List.mem_singleton.mpr rfl)
    have ns2 : h2.Ns C m := by
      obtain ⟨o, es, ep, ho, hd, r⟩ := c.ns
      obtain ⟨sl, hs⟩ := E2.slot _ _ ho hCσ hCa
      exact ⟨_, es, ep, hs, hd, r⟩
    refine ⟨m, ns2, fun h3 hs3 => wpAny_pure (wpAny_pure ?_)⟩
    have kb : ∀ b o, b ∉ [C] → h2.get? b = some o → h3.get? b = some o := fun b o q r => (hs3.2 b (fun q' => q (List.mem_singleton.mpr q'))).trans r
    have nd : NoData h2 X [C] := .ns ns2
    have E12 : Ext (ownA env) σ σ'' s.heap h2 := (E1.own fun _ m => nomatch m).trans (E2.own fun b m => List.mem_singleton.mp m ▸ ma)
    exact k .next σ'' h3 tk2 (E12.but (dead := [C]) (fun b m => List.mem_singleton.mp m ▸ c.newC) kb) (ok2.but (fun b m => List.mem_singleton.mp m ▸ hCσ) kb nd hCo) (I2.but kb nd (fun b m => List.mem_singleton.mp m ▸ c.c0) (fun b m => List.mem_singleton.mp m ▸ hCσ)) trivial
  rcases hmk with rfl | rfl
  · obtain ⟨ys, H2, e2, g2⟩ := bnd_some e1
    cases g2
    exact core ys _ e2 fun D C σ' h' vs n m c => ⟨σ', c.ext, (c.frozen hX c.at' c.inv c.cvs).1, (c.frozen hX c.at' c.inv c.cvs).2, c.cσ⟩
  · obtain ⟨ys, H2, e2, g2⟩ := bnd_some e1
    cases g2
    exact core ys _ e2 fun D C σ' h' vs n m c => let ⟨a, b, d⟩ := c.made hX c.at' c.inv c.cvs c.ext; ⟨σ' ++ [D], d, a, b, fun mc => (List.mem_append.mp mc).elim c.cσ fun mc => c.ne (List.mem_singleton.mp mc).symm⟩
end
end Mine

namespace Mine
open PySem PyProof.Rows PySem.Calls

section
variable {prog : Program} {w : World} {h₀ : Heap} {A : Around} {env : Env} {sc : Scope} {ρ : Loc}

theorem tgt_cons {e : Expr} {es : List Expr} {xs : List Str} (h : tgtNames (e :: es) = some xs) : ∃ x q ys, e = .Name x q ∧ xs = x :: ys ∧ tgtNames es = some ys := by
  simp only [tgtNames] at h
  split at h
  case h_2 => cases h
  rename_i x hx
  obtain ⟨q, rfl⟩ := nameOf_some hx
  obtain ⟨ys, hy, rfl⟩ := Option.map_eq_some_iff.mp h
  exact ⟨x, q, ys, rfl, rfl, hy⟩
theorem tgt_each : ∀ {es : List Expr} {xs : List Str}, tgtNames es = some xs → (assignEach es env).length = xs.length ∧ (assignEach es env).findIdx? (·.1) = none
  | [], xs, h => by cases h; exact ⟨rfl, rfl⟩
  | e :: es, xs, h => by
    obtain ⟨x, q, ys, rfl, rfl, hy⟩ := tgt_cons h
    obtain ⟨h1, h2⟩ := tgt_each hy
    refine ⟨congrArg Nat.succ h1, ?_⟩
    show List.findIdx? (·.1) ((false, _) :: assignEach es env) = none
    rw [List.findIdx?_cons, h2]; rfl

theorem assign_all {E : Value → Shared → Prop} : ∀ {xs : List Str} {es : List Expr} {vs : List AV} {cs : List Value} {ρ ρ' : Loc} {H : HP} {σ X : List Addr} {s : Shared} {Q : Unit → Shared → Prop}, tgtNames es = some xs → xs.all (isSto sc) = true → updAll ρ xs vs = some ρ' →
    EnvOk h₀ env sc ρ σ X s.heap → InvH h₀ H σ X s.heap → CvL s.heap σ X vs cs →
    (∀ h' tk, Ext (ownA env) σ σ s.heap h' → EnvOk h₀ env sc ρ' σ X h' → InvH h₀ H σ X h' → Q () { s with heap := h', toks := tk }) → wpAny (model prog w) A (assignInOrder ((assignEach es env).map (·.2)) cs) Q E s
  | xs, [], vs, cs, ρ, ρ', H, σ, X, s, Q, ht, hx, hu, ok, I, c, k => by
    cases ht
    cases c with
    | nil => cases hu; exact wpAny_pure (k s.heap s.toks (Ext.refl _ _ _) ok I)
    | cons _ _ => cases hu
  | xs, e :: es, vs, cs, ρ, ρ', H, σ, X, s, Q, ht, hx, hu, ok, I, c, k => by
    obtain ⟨x, q, ys, rfl, rfl, hy⟩ := tgt_cons ht
    cases c with
    | nil => cases hu
    | cons cv cr =>
      rename_i c1 cs1
      obtain ⟨hx1, hx2⟩ := Bool.and_eq_true_iff.mp hx
      show wpAny _ _ (do holding cs1 (assign (.Name x q) env c1); assignInOrder ((assignEach es env).map (·.2)) cs1) _ _ _
      refine wpAny_bind (wpAny_holding (wpAny_assign_Name (store_sound ok I hx1 cv fun a h1 tk1 ma _ E1 ok1 I1 => ?_)))
      have E1' : Ext (ownA env) σ σ s.heap h1 := E1.own fun b m => List.mem_singleton.mp m ▸ ma
      exact assign_all (s := { s with heap := h1, toks := tk1 }) hy hx2 hu ok1 I1 (cr.ext E1' ok.noData) fun h2 tk2 E2 ok2 I2 => k h2 tk2 (E1'.trans E2) ok2 I2

theorem updAll_length : ∀ {xs : List Str} {vs : List AV} {ρ ρ' : Loc}, updAll ρ xs vs = some ρ' → vs.length = xs.length
  | [], [], _, _, _ => rfl
  | [], _ :: _, _, _, h => by cases h
  | _ :: _, [], _, _, h => by cases h
  | _ :: xs, _ :: vs, _, _, h => congrArg Nat.succ (updAll_length h)
theorem assign_tgt {E : Value → Shared → Prop} {t : Expr} {v : AV} {cv : Value} {ρ' : Loc} {H : HP} {σ X : List Addr} {s : Shared} {Q : Unit → Shared → Prop} (hh : A.handled = none) (hb : bindTgt sc t v ρ = some ρ')
    (ok : EnvOk h₀ env sc ρ σ X s.heap) (I : InvH h₀ H σ X s.heap) (c : Cv s.heap σ X v cv)
    (k : ∀ h' tk, Ext (ownA env) σ σ s.heap h' → EnvOk h₀ env sc ρ' σ X h' → InvH h₀ H σ X h' → Q () { s with heap := h', toks := tk }) : wpAny (model prog w) A (assign t env cv) Q E s := by
  unfold bindTgt at hb
  cases hn : nameOf t with
  | some x =>
    obtain ⟨q, rfl⟩ := nameOf_some hn
    by_cases hx : isSto sc x = true
    case neg => rw [hn] at hb; simp only [if_neg hx] at hb; cases hb
    rw [hn] at hb; simp only [if_pos hx] at hb
    cases hb
    exact wpAny_assign_Name (store_sound ok I hx c fun a h1 tk1 ma _ E1 ok1 I1 => k h1 tk1 (E1.own fun b m => List.mem_singleton.mp m ▸ ma) ok1 I1)
  | none =>
    cases he : tupOf t with
    | none => rw [hn, he] at hb; cases hb
    | some es =>
      obtain ⟨n, q, rfl⟩ := tupOf_some he
      cases hx : tgtNames es with
      | none => rw [hn, he] at hb; simp only [hx] at hb; cases hb
      | some xs =>
        by_cases hs : xs.all (isSto sc) = true
        case neg => rw [hn, he] at hb; simp only [hx, if_neg hs] at hb; cases hb
        rw [hn, he] at hb
        simp only [hx, if_pos hs] at hb
        unfold updTup at hb
        split at hb
        case h_2 => cases hb
        cases c with
        | tup hg h1 h2 hl r =>
          rename_i a cs m
          obtain ⟨t1, t2⟩ := tgt_each (env := env) hx
          refine wpAny_assign_Tuple (items := cs.toArray) hh ⟨_, hg, rfl, m, rfl⟩ (by rw [t1, List.size_toArray, r.length, updAll_length hb]) t2 fun h' hb' => ?_
          have kk : ∀ b o, s.heap.get? b = some o → h'.get? b = some o := fun b o e => hb' b o (fun q => by rw [q, get_size_none] at e; cases e) e
          have E0 : Ext (ownA env) σ σ s.heap h' := Ext.of_keeps kk
          exact assign_all (s := { s with heap := h' }) hx hs hb (ok.ext (Ext.of_keeps kk)) (I.keeps kk) (r.keeps kk) fun h2 tk2 E2 ok2 I2 => k h2 tk2 (E0.trans E2) ok2 I2

theorem sim_asgT {es : List Expr} {n : Nat} {q : Pos} {e : Expr} {pos : Pos} {H : HP} {r : R AV} (hh : A.handled = none) (hc : (isTupleD e || isCompD e) = false) (he : Sim prog w h₀ A env sc ρ (eval e env) H r false) :
    SimS prog w h₀ A env sc (exec (.Assign [.Tuple es n q] e pos) env) ρ H (asgT (bindTgt sc (.Tuple es n q)) r ρ) := by
  intro fl ρ' H' e' σ X s Q E ok I hX k
  obtain ⟨v, H1, e1, g1⟩ := bnd_some e'
  split at g1
  · rename_i ρ1 hb
    cases g1
    refine Assign_Tuple (he v _ e1 σ X s _ E ok I hX fun cv σ1 h1 tk1 E1 I1 C1 _ => ?_) ?_ ?_
    · exact assign_tgt (s := { s with heap := h1, toks := tk1 }) hh hb (ok.ext E1) I1 C1 fun h2 tk2 E2 ok2 I2 => k _ σ1 h2 tk2 ((E1.own fun _ m => nomatch m).trans E2) ok2 I2 trivial
    · cases e <;> first | rfl | (exact Bool.noConfusion (show (true = false) from hc))
    · cases e <;> first | rfl | (exact Bool.noConfusion (show (true = false) from hc))
  · cases g1

theorem sim_asgI {o i e : Expr} {q pos : Pos} {fo fi fe : HP → R AV} {H : HP} (hc : isCompD e = false) (ho : ∀ H, Sim prog w h₀ A env sc ρ (eval o env) H (fo H) false) (hi : ∀ H, Sim prog w h₀ A env sc ρ (eval i env) H (fi H) false)
    (he : ∀ H, Sim prog w h₀ A env sc ρ (eval e env) H (fe H) false) :
    SimS prog w h₀ A env sc (exec (.Assign [.Subscript o i q] e pos) env) ρ H (asgI fo fi fe ρ H) := by
  intro fl ρ' H' e' σ X s Q E ok I hX k
  obtain ⟨v, H1, e1, g1⟩ := bnd_some e'
  obtain ⟨ov, H2, e2, g2⟩ := bnd_some g1
  obtain ⟨iv, H3, e3, g3⟩ := bnd_some g2
  split at g3
  case h_2 => cases g3
  rename_i H4 hset
  cases g3
  refine wpAny_Assign_Subscript (he H v H1 e1 σ X s _ E ok I hX fun cv σ1 h1 tk1 E1 I1 C1 x1 => ?_) (by cases e <;> first | rfl | (exact Bool.noConfusion (show (true = false) from hc)))
  refine ho H1 ov H2 e2 σ1 X { s with heap := h1, toks := tk1 } _ E (ok.ext E1) I1 (xlive hX E1) fun co σ2 h2 tk2 E2 I2 C2 x2 => ?_
  have ok2 := (ok.ext E1).ext E2
  refine hi H2 iv H3 e3 σ2 X { s with heap := h2, toks := tk2 } _ E ok2 I2 (xlive (xlive hX E1) E2) fun ci σ3 h3 tk3 E3 I3 C3 x3 => ?_
  have C1' := (C1.ext E2 NoData.nil).ext E3 NoData.nil
  have C2' := C2.ext E3 NoData.nil
  have ok3 := ok2.ext E3
  cases C2' with
  | @dct kk a o hk ho dd =>
    replace hset : setD H3 kk iv v = some H' := hset
    unfold setD at hset
    split at hset
    case h_2 => cases hset
    rename_i i0
    split at hset
    case h_2 => cases hset
    rename_i es hx
    split at hset
    case isFalse => cases hset
    rename_i hi
    obtain ⟨hi1, hi2⟩ := Bool.and_eq_true_iff.mp hi
    have hi2 := of_decide_eq_true hi2
    cases hset
    cases C3 with
    | int _ t =>
    obtain ⟨hl, kvs, D, r⟩ := dct_at I3 hk ho dd hx
    obtain ⟨m, D⟩ := D.of (p := prog) (w := w)
    have hsz := sizeLine_ge
    refine wpAny_setItem_pairs (s := { s with heap := h3, toks := tk3 }) (intKind_is prog w i0 t) D (fun h4 hm hs => ?_) (by rw [r.len]; lia)
    obtain ⟨E4, I4⟩ := I3.putO (h' := h4) (ys := dStore es i0 v) hk (fun o' e => by
      rw [ho] at e; cases e
      obtain ⟨o4, es4, ep4, g4, _, d4, _⟩ := id hm
      exact ⟨o4, g4, fun _ => ⟨es4, ep4, d4⟩, fun _ => dd⟩) hs fun _ => .inr ⟨Nat.le_trans (dStore_len _ _ _) hi2, _, ⟨m, prog, w, hm⟩, r.store (Cs.of C1' hi1)⟩
    exact k .next σ3 h4 _ ((((E1.trans E2).trans E3).trans E4).own fun _ m => nomatch m) (ok3.ext E4) I4 trivial
  | _ => cases hset

theorem sim_if {t : Expr} {b o : List Stmt} {pos : Pos} {H : HP} {r : R Bool} {fb fo : HP → RS} (ht : SimB prog w h₀ A env sc ρ (isTrue t env (eval t env)) H r) (hb : ∀ H, SimS prog w h₀ A env sc (execs b env) ρ H (fb H))
    (ho : ∀ H, SimS prog w h₀ A env sc (execs o env) ρ H (fo H)) : SimS prog w h₀ A env sc (exec (.If t b o pos) env) ρ H (iteS r fb fo) := by
  intro fl ρ' H' e' σ X s Q E ok I hX k
  obtain ⟨c, H1, e1, g1⟩ := bnd_some e'
  refine wpAny_If (ht c H1 e1 σ X s _ E ok I hX fun σ1 h1 tk1 E1 I1 => ?_)
  have E1' : Ext (ownA env) σ σ1 s.heap h1 := E1.own fun _ m => nomatch m
  cases c
  · exact ho H1 fl ρ' H' g1 σ1 X _ Q E (ok.ext E1) I1 (xlive hX E1) fun cf σ2 h2 tk2 E2 ok2 I2 F2 => k cf σ2 h2 tk2 (E1'.trans E2) ok2 I2 F2
  · exact hb H1 fl ρ' H' g1 σ1 X _ Q E (ok.ext E1) I1 (xlive hX E1) fun cf σ2 h2 tk2 E2 ok2 I2 F2 => k cf σ2 h2 tk2 (E1'.trans E2) ok2 I2 F2

theorem sim_cons {st : Stmt} {rest : List Stmt} {H : HP} {r : RS} {f : Loc → HP → RS} (h1 : SimS prog w h₀ A env sc (exec st env) ρ H r) (h2 : ∀ ρ H, SimS prog w h₀ A env sc (execs rest env) ρ H (f ρ H)) : SimS prog w h₀ A env sc (execs (st :: rest) env) ρ H (sq r f) := by
  intro fl ρ' H' e' σ X s Q E ok I hX k
  refine wpAny_execs_cons ?_
  rcases sq_some e' with ⟨ρ1, H1, e1, g1⟩ | ⟨v, ρ1, H1, e1, g1⟩
  · refine h1 _ _ _ e1 σ X s _ E ok I hX fun cf σ1 h1 tk1 E1 ok1 I1 F1 => ?_
    cases cf <;> first | exact F1.elim | skip
    exact h2 ρ1 H1 fl ρ' H' g1 σ1 X _ Q E ok1 I1 (xliveO hX E1) fun cf σ2 h2 tk2 E2 ok2 I2 F2 => k cf σ2 h2 tk2 (E1.trans E2) ok2 I2 F2
  · cases g1
    refine h1 _ _ _ e1 σ X s _ E ok I hX fun cf σ1 h1 tk1 E1 ok1 I1 F1 => ?_
    cases cf <;> first | exact F1.elim | skip
    exact k _ σ1 h1 tk1 E1 ok1 I1 F1

end
end Mine

namespace Mine
open PySem PyProof.Rows PySem.Calls

/-! ### a heap of which some is not seen -/
open Classical in
noncomputable def hide (h : Heap) (p : Nat → Prop) : Heap := { h with objs := h.objs.mapIdx fun i o => if p i then o else { o with data := .freed } }
theorem hide_of {h : Heap} {p : Nat → Prop} {b : Addr} {o : Obj} (e : h.get? b = some o) (hp : p b) : (hide h p).get? b = some o := by
  obtain ⟨h1, h2⟩ := Heap.get?_some_iff.mp e
  refine Heap.get?_some_iff.mpr ⟨?_, h2⟩
  show (h.objs.mapIdx _)[b]? = _
  rw [Array.getElem?_mapIdx, h1]
  simp [hp]
theorem hide_some {h : Heap} {p : Nat → Prop} {b : Addr} {o : Obj} (e : (hide h p).get? b = some o) : h.get? b = some o ∧ p b := by
  obtain ⟨h1, h2⟩ := Heap.get?_some_iff.mp e
  have h1 : (h.objs.mapIdx _)[b]? = some o := h1
  rw [Array.getElem?_mapIdx] at h1
  obtain ⟨o', h3, h4⟩ := Option.map_eq_some_iff.mp h1
  by_cases hp : p b
  · simp only [hp, if_true] at h4
    subst h4
    exact ⟨Heap.get?_some_iff.mpr ⟨h3, h2⟩, hp⟩
  · simp only [hp, if_false] at h4
    subst h4
    exact absurd h2 (by simp [Obj.isFreed])
theorem hide_none {h : Heap} {p : Nat → Prop} {b : Addr} (hp : ¬ p b) : (hide h p).get? b = none := by
  cases e : (hide h p).get? b with
  | none => rfl
  | some o => exact absurd (hide_some e).2 hp

/-- the frames that are open are defs' -/
noncomputable def FrA (A : Around) (l : List Env) : Prop := A.frames = some l ∧ ∀ env ∈ l, env.scope.kind ≠ .module ∧ ∃ L, env.frame = some L
theorem frs_eq {A : Around} {l : List Env} (f : FrA A l) : frs A = l.filterMap (·.frame) := by unfold frs; rw [f.1]; rfl
/-- what a note on an exception changes: tables of frames get slots; the exception, its trace -/
structure Tch (F S : List Addr) (h h' : Heap) : Prop where
  keep : ∀ b o, h.get? b = some o → b ∉ F → b ∉ S → h'.get? b = some o
  slot : ∀ b o, h.get? b = some o → b ∈ F → ∃ sl, h'.get? b = some { o with slots := sl }
/-- an exception with a trace -/
inductive Exc (h : Heap) (e T C : Addr) (fl : Value) : Prop
  | mk (oe oT : Obj) (vs ts : Array Value) (a0 : Value) (he : h.get? e = some oe) (hc : oe.cls = .ref C) (hd : oe.data = .fields vs) (h0 : vs[0]? = some a0) (h1 : vs[1]? = some (.ref T)) (hne : T ≠ e) (hT : h.get? T = some oT) (hdT : oT.data = .fields ts) (h3 : ts[3]? = some fl)

section
variable {M : Model} {A : Around} {E : Value → Shared → Prop} {s : Shared}

theorem funFrames {h : Heap} {p : Nat → Prop} : ∀ {l : List Env}, (∀ env ∈ l, env.scope.kind ≠ .module ∧ ∃ L, env.frame = some L) → (∀ a ∈ l.filterMap (·.frame), (∃ o, h.get? a = some o ∧ isDict o) ∧ ¬ p a) → h.FunFrames (hide h p) l
  | [], _, _ => trivial
  | env :: l, h1, h2 => by
    obtain ⟨hk, L, hL⟩ := h1 env List.mem_cons_self
    have hm : L ∈ (env :: l).filterMap (·.frame) := by rw [List.filterMap_cons, hL]; exact List.mem_cons_self
    obtain ⟨⟨o, ho, es, n, hd⟩, hp⟩ := h2 L hm
    refine ⟨hk, ⟨L, o, hL, hide_none hp, ho, fun vs q => by rw [hd] at q; cases q⟩, funFrames (fun e m => h1 e (List.mem_cons_of_mem _ m)) fun a m => h2 a ?_⟩
    rw [List.filterMap_cons, hL]; exact List.mem_cons_of_mem _ m

/-- what is behind a note -/
theorem noted_at {h h' : Heap} {F : List Addr} {l : List Env} {e C : Addr} {a0 fl : Value} {S : List Addr} (hF : ∀ a ∈ F, ∃ o, h.get? a = some o ∧ isDict o) (heS : e ∈ S) (N : Heap.NotedW (hide h fun b => b ∉ F ∧ b ∉ S) l e (.ref C) a0 fl h h')
    (hnf : ∀ a ∈ F, a ∉ S) : ∃ T, Exc h' e T C fl ∧ (h.get? T = none ∨ T ∈ S) ∧ Tch F S h h' := by
  obtain ⟨k1, _, ⟨oe, vs, T, oT, ts, he, ⟨hc, h0⟩, hd, h1, hnT, hne, hT, hdT, h3⟩, k4⟩ := N
  have slot : ∀ b o, h.get? b = some o → b ∈ F → ∃ sl, h'.get? b = some { o with slots := sl } := fun b o hb m => by
    obtain ⟨o', ho', es, n, hd'⟩ := hF b m
    rw [hb] at ho'; cases ho'
    exact k4 b o hb fun vs q => by rw [hd'] at q; cases q
  refine ⟨T, ⟨oe, oT, vs, ts, a0, he, hc, hd, h0, h1, hne, hT, hdT, h3⟩, ?_, ⟨fun b o hb h1 h2 => k1 b o (hide_of hb ⟨h1, h2⟩), slot⟩⟩
  by_cases hTF : T ∈ F
  · obtain ⟨o, ho, es, n, hd'⟩ := hF T hTF
    obtain ⟨sl, hs⟩ := slot T o ho hTF
    rw [hT] at hs
    have hs := Option.some.inj hs
    rw [hs] at hdT
    rw [show ({ o with slots := sl } : Obj).data = o.data from rfl, hd'] at hdT; cases hdT
  · by_cases hTS : T ∈ S
    · exact .inr hTS
    · left
      cases q : h.get? T with
      | none => rfl
      | some o => rw [hide_of q ⟨hTF, hTS⟩] at hnT; cases hnT

/-- the first note -/
theorem note_first {h1 : Heap} {env : Env} {outer : List Env} {L e C : Addr} {args : List Value} {Q : Unit → Shared → Prop} (fr : FrA A (env :: outer)) (hf : env.frame = some L) (hF : ∀ a ∈ frs A, ∃ o, h1.get? a = some o ∧ isDict o) (hx : Heap.MadeExcOf h1 s.heap e (.ref C) args)
    (hQ : ∀ h' T, Exc h' e T C (rawInt L) → h1.get? T = none → Tch (frs A) [] h1 h' → Q () { s with heap := h' }) : wpAny M A (noteFrame (.ref e) env) Q E s := by
  obtain ⟨t, he, htn, _⟩ := hx.there
  have hF' : ∀ a ∈ frs A, ∃ o, s.heap.get? a = some o ∧ isDict o := fun a m => let ⟨o, h, d⟩ := hF a m; ⟨o, hx.keeps _ _ h, d⟩
  have hne : ∀ a ∈ frs A, a ∉ [e] := fun a m q => by
    obtain ⟨o, h, _⟩ := hF a m
    rw [List.mem_singleton.mp q, hx.new] at h; cases h
  unfold noteFrame
  simp only [hf]
  refine wpAny_bind (wpAny_field he rfl (x := .none) rfl ?_)
  rw [if_neg (by decide)]
  have ff : s.heap.FunFrames (hide s.heap fun b => b ∉ frs A ∧ b ∉ [e]) (env :: outer) := funFrames fr.2 fun a m => by
    rw [← frs_eq fr] at m
    exact ⟨hF' a m, fun q => q.1 m⟩
  refine wpAny_entryW (base := hide s.heap fun b => b ∉ frs A ∧ b ∉ [e]) (a0 := .ref t) fr.1 ff hf he (fun b o hb => (hide_some hb).1) (hide_none fun q => q.2 List.mem_cons_self) rfl (by simp) rfl fun h' N => ?_
  obtain ⟨T, x, hT, tc⟩ := noted_at (S := [e]) hF' List.mem_cons_self N hne
  have hTe : T ≠ e := by obtain ⟨_, _, _, _, _, _, _, _, _, _, q, _⟩ := x; exact q
  refine hQ h' T x ?_ ⟨fun b o hb q _ => tc.keep b o (hx.keeps _ _ hb) q fun m => ?_, fun b o hb q => tc.slot b o (hx.keeps _ _ hb) q⟩
  · rcases hT with hT | hT
    · cases q : h1.get? T with
      | none => rfl
      | some o => rw [hx.keeps _ _ q] at hT; cases hT
    · exact absurd (List.mem_singleton.mp hT) hTe
  · rw [List.mem_singleton.mp m, hx.new] at hb; cases hb

/-- a further note -/
theorem note_next {env : Env} {outer : List Env} {L e T C : Addr} {Q : Unit → Shared → Prop} (fr : FrA A (env :: outer)) (hf : env.frame = some L) (hF : ∀ a ∈ frs A, ∃ o, s.heap.get? a = some o ∧ isDict o) (hx : Exc s.heap e T C .none)
    (hQ : ∀ h' T', Exc h' e T' C (rawInt L) → (s.heap.get? T' = none ∨ T' ∈ [e, T]) → Tch (frs A) [e, T] s.heap h' → Q () { s with heap := h' }) : wpAny M A (noteFrame (.ref e) env) Q E s := by
  obtain ⟨oe, oT, vs, ts, a0, he, hc, hd, h0, h1, hne, hT, hdT, h3⟩ := hx
  have hnf : ∀ a ∈ frs A, a ∉ [e, T] := fun a m q => by
    obtain ⟨o, h, es, n, hd'⟩ := hF a m
    rcases List.mem_cons.mp q with q | q
    · rw [q, he] at h; cases h; rw [hd] at hd'; cases hd'
    · rw [List.mem_singleton.mp q, hT] at h; cases h; rw [hdT] at hd'; cases hd'
  have ff : s.heap.FunFrames (hide s.heap fun b => b ∉ frs A ∧ b ∉ [e, T]) (env :: outer) := funFrames fr.2 fun a m => by
    rw [← frs_eq fr] at m
    exact ⟨hF a m, fun q => q.1 m⟩
  refine wpAny_noteFrame_onW (base := hide s.heap fun b => b ∉ frs A ∧ b ∉ [e, T]) (cls := .ref C) (a0 := a0) fr.1 ff hf ⟨oe, vs, T, oT, ts, he, ⟨hc, h0⟩, hd, h1, hide_none (fun q => q.2 (List.mem_cons_of_mem _ List.mem_cons_self)), hne, hT, hdT, h3⟩
    (fun b o hb => (hide_some hb).1) (hide_none fun q => q.2 List.mem_cons_self) fun h' N => ?_
  obtain ⟨T', x, hT', tc⟩ := noted_at (S := [e, T]) hF List.mem_cons_self N hnf
  exact hQ h' T' x hT' tc

/-- the flight ends -/
theorem fly_end {e T C : Addr} {fl : Value} {Q : Unit → Shared → Prop} (hx : Exc s.heap e T C fl) (hQ : ∀ h', Exc h' e T C .none → Heap.SameBut T s.heap h' → Q () { s with heap := h' }) : wpAny M A (setFlight (.ref e) none) Q E s := by
  obtain ⟨oe, oT, vs, ts, a0, he, hc, hd, h0, h1, hne, hT, hdT, h3⟩ := hx
  have hsz := (Array.getElem?_eq_some_iff.mp h3).1
  refine wpAny_setFlight_none he hd h1 hT hdT hsz (hQ _ ?_ (Heap.SameBut.update ..))
  exact ⟨oe, _, vs, _, a0, (Heap.get?_update_other _ _ hne).trans he, hc, hd, h0, h1, hne, Heap.get?_update_self _ hT (Obj.isFreed_of_fields (Obj.data_mapFields hdT _)), Obj.data_mapFields hdT _, by simp [hsz]⟩

/-- what came back flies on in this frame -/
theorem came_back {env : Env} {L e T C : Addr} {fl : Value} {E' : Value → Shared → Prop} (hf : env.frame = some L) (hx : Exc s.heap e T C fl) (hQ : ∀ h', Exc h' e T C (rawInt L) → Heap.SameBut T s.heap h' → E' (.ref e) { s with heap := h' }) : cameBackBy M A env E' (.ref e) s := by
  obtain ⟨oe, oT, vs, ts, a0, he, hc, hd, h0, h1, hne, hT, hdT, h3⟩ := hx
  have hsz := (Array.getElem?_eq_some_iff.mp h3).1
  unfold cameBackBy
  refine wpAny_bind (wpAny_field he hd h1 ?_)
  rw [if_neg (by simp)]
  unfold setFlight
  refine wpAny_bind (wpAny_field he hd h1 ?_)
  rw [if_pos (show (Value.ref T != Value.none) = true from by simp)]
  rw [hf]
  refine wpAny_setField hT hdT hsz (hQ _ ?_ (Heap.SameBut.update ..))
  exact ⟨oe, _, vs, _, a0, (Heap.get?_update_other _ _ hne).trans he, hc, hd, h0, h1, hne, Heap.get?_update_self _ hT (Obj.isFreed_of_fields (Obj.data_mapFields hdT _)), Obj.data_mapFields hdT _, by simp [hsz]⟩
/-- a note where it flies already -/
theorem note_again {env : Env} {L e T C : Addr} {Q : Unit → Shared → Prop} (hf : env.frame = some L) (hx : Exc s.heap e T C (rawInt L)) (hQ : Q () s) : wpAny M A (noteFrame (.ref e) env) Q E s := by
  obtain ⟨oe, oT, vs, ts, a0, he, hc, hd, h0, h1, hne, hT, hdT, h3⟩ := hx
  exact wpAny_noteFrame_inFlight hf he hd h1 hT hdT h3 hQ
end
end Mine

namespace Mine
open PySem PyProof.Rows PySem.Calls

/-- this def's frame is the last of those that are open; all are newer than h₀ -/
structure FrE (h₀ : Heap) (A : Around) (env : Env) : Prop where
  fr : ∃ outer, FrA A (env :: outer)
  at' : env.frame = some env.locals
  low : ∀ a ∈ frs A, h₀.get? a = none
/-- an exception of the class at D is on its way; h1 is the heap ahead of it -/
inductive Thr (A : Around) (env : Env) (h1 h' : Heap) (e D : Addr) : Prop
  | made (args : List Value) (hx : Heap.MadeExcOf h1 h' e (.ref D) args)
  | fly (T : Addr) (fl : Value) (hx : Exc h' e T D fl) (he : h1.get? e = none) (hT : h1.get? T = none) (tc : Tch (frs A) [] h1 h') (hfl : fl = .none ∨ fl = rawInt env.locals)

theorem Tch.same {F : List Addr} {h1 h h' : Heap} {T : Addr} (tc : Tch F [] h1 h) (hT : h1.get? T = none) (sb : Heap.SameBut T h h') : Tch F [] h1 h' :=
  ⟨fun b o hb q r => (sb.2 b (fun e => by rw [e, hT] at hb; cases hb)).trans (tc.keep b o hb q r), fun b o hb q => let ⟨sl, e⟩ := tc.slot b o hb q; ⟨sl, (sb.2 b (fun e => by rw [e, hT] at hb; cases hb)).trans e⟩⟩
theorem Tch.there {F : List Addr} {h1 h' : Heap} (tc : Tch F [] h1 h') {b : Addr} {o : Obj} (hb : h1.get? b = some o) : ∃ o', h'.get? b = some o' ∧ o'.data = o.data := by
  by_cases q : b ∈ F
  · obtain ⟨sl, e⟩ := tc.slot b o hb q; exact ⟨_, e, rfl⟩
  · exact ⟨o, tc.keep b o hb q List.not_mem_nil, rfl⟩
theorem Tch.back {F : List Addr} {h1 h' : Heap} (tc : Tch F [] h1 h') {b : Addr} (n : h'.get? b = none) : h1.get? b = none := by
  cases q : h1.get? b with
  | none => rfl
  | some o => obtain ⟨o', e, _⟩ := tc.there q; rw [n] at e; cases e

section
variable {M : Model} {A : Around} {E : Value → Shared → Prop} {s : Shared} {h₀ h1 : Heap} {env : Env} {X : List Addr} {e D : Addr}

theorem note_thr {σ : List Addr} {Q : Unit → Shared → Prop} (fr : FrE h₀ A env) (L : Lv A X σ h1) (th : Thr A env h1 s.heap e D)
    (hQ : ∀ h' T, Exc h' e T D (rawInt env.locals) → h1.get? e = none → h1.get? T = none → Tch (frs A) [] h1 h' → Q () { s with heap := h' }) : wpAny M A (noteFrame (.ref e) env) Q E s := by
  obtain ⟨outer, fa⟩ := fr.fr
  cases th with
  | made args hx => exact note_first fa fr.at' L.f hx fun h' T x hT tc => hQ h' T x hx.new hT tc
  | fly T fl hx he hT tc hfl =>
    rcases hfl with rfl | rfl
    · refine note_next fa fr.at' (fun a m => ?_) hx fun h' T' x hT' tc' => ?_
      · obtain ⟨o, ho, es, n, hd⟩ := L.f a m
        obtain ⟨o', ho', hd'⟩ := tc.there ho
        exact ⟨o', ho', es, n, hd'.trans hd⟩
      · have hT1 : h1.get? T' = none := by
          rcases hT' with q | q
          · exact tc.back q
          · rcases List.mem_cons.mp q with q | q
            · rw [q]; exact he
            · rw [List.mem_singleton.mp q]; exact hT
        have hn : ∀ b o, h1.get? b = some o → b ∉ [e, T] := fun b o hb q => by
          rcases List.mem_cons.mp q with q | q
          · rw [q, he] at hb; cases hb
          · rw [List.mem_singleton.mp q, hT] at hb; cases hb
        refine hQ h' T' x he hT1 ⟨fun b o hb q _ => tc'.keep b o (tc.keep b o hb q List.not_mem_nil) q (hn b o hb), fun b o hb q => ?_⟩
        obtain ⟨sl, e1⟩ := tc.slot b o hb q
        obtain ⟨sl', e2⟩ := tc'.slot b _ e1 q
        exact ⟨sl', e2⟩
    · exact note_again fr.at' hx (hQ s.heap T hx he hT tc)
theorem leave_thr {σ : List Addr} {Q : Unit → Shared → Prop} (fr : FrE h₀ A env) (L : Lv A X σ h1) (th : Thr A env h1 s.heap e D)
    (hQ : ∀ h' T, Exc h' e T D .none → h1.get? e = none → h1.get? T = none → Tch (frs A) [] h1 h' → Q () { s with heap := h' }) : wpAny M A (leaving env (.ref e)) Q E s := by
  unfold leaving
  refine wpAny_bind (note_thr fr L th fun h' T x he hT tc => ?_)
  exact fly_end (s := { s with heap := h' }) x fun h'' x' sb => hQ h'' T x' he hT (tc.same hT sb)
/-- out of a loop -/
theorem loop_thr {σ : List Addr} {E' : Value → Shared → Prop} (fr : FrE h₀ A env) (L : Lv A X σ h1) (th : Thr A env h1 s.heap e D) (hE : ∀ h', Thr A env h1 h' e D → E' (.ref e) { s with heap := h' }) : notedBy M A env (fun x s' => cameBackBy M A env E' x s') (.ref e) s := by
  refine note_thr fr L th fun h' T x he hT tc => ?_
  exact came_back (s := { s with heap := h' }) fr.at' x fun h'' x' sb => hE h'' (.fly T _ x' he hT (tc.same hT sb) (.inr rfl))
end

section
variable {h₀ h1 h' : Heap} {A : Around} {H : HP} {σ X : List Addr}
theorem Tch.ext (L : Lv A X σ h1) (tc : Tch (frs A) [] h1 h') : Ext [] σ σ h1 h' where
  keep := fun b o hb _ _ nd => tc.keep b o hb (fun m => by obtain ⟨o', ho', d⟩ := L.f b m; rw [hb] at ho'; cases ho'; exact nd d) List.not_mem_nil
  slot := fun b o hb _ _ => by
    by_cases q : b ∈ frs A
    · exact tc.slot b o hb q
    · exact ⟨o.slots, tc.keep b o hb q List.not_mem_nil⟩
  live := fun b o hb => by
    obtain ⟨o', e, d⟩ := tc.there hb
    exact ⟨o', e, fun ⟨es, n, q⟩ => ⟨es, n, d.trans q⟩⟩
  pre := List.prefix_refl _
  new := fun _ m => .inl m
  kind := fun a o m hb => ⟨o, tc.keep a o hb (fun q => L.s a q m) List.not_mem_nil, Iff.rfl⟩
theorem InvH.tch {X' : List Addr} (I : InvH h₀ H σ X h1) (L : Lv A X' σ h1) (low : ∀ a ∈ frs A, h₀.get? a = none) (tc : Tch (frs A) [] h1 h') : InvH h₀ H σ X h' where
  keep := fun b o e => tc.keep b o (I.keep b o e) (fun m => by rw [low b m] at e; cases e) List.not_mem_nil
  low := I.low
  len := I.len
  nodup := I.nodup
  apart := I.apart
  objs := fun k o e => by
    obtain ⟨c, hc, ok⟩ := I.objs k o e
    have x : Ext [] σ σ h1 h' := tc.ext L
    exact ⟨c, hc, ok.ext (fun ob eb => tc.keep _ _ eb (fun m => L.s c m (List.mem_of_getElem? hc)) List.not_mem_nil) x NoData.nil⟩
end

/-- the tree raises what the evaluator says -/
noncomputable def Rz {α : Type} (prog : Program) (w : World) (h₀ : Heap) (A : Around) (env : Env) (sc : Scope) (t : Sem α) (ρ : Loc) (H : HP) (r : R Addr) : Prop :=
  ∀ D H', r = some (D, H') → ∀ (σ X : List Addr) (s : Shared) (Q : α → Shared → Prop) (E : Value → Shared → Prop), EnvOk h₀ env sc ρ σ X s.heap → InvH h₀ H σ X s.heap → Lv A X σ s.heap →
    (∀ e σ' h1 h' tk, Ext (ownA env) σ σ' s.heap h1 → InvH h₀ H' σ' X h1 → Lv A X σ' h1 → Thr A env h1 h' e D → E (.ref e) { s with heap := h', toks := tk }) → wpAny (model prog w) A t Q E s
/-- the same, where no name of the frame is stored -/
noncomputable def RzE {α : Type} (prog : Program) (w : World) (h₀ : Heap) (A : Around) (env : Env) (sc : Scope) (t : Sem α) (ρ : Loc) (H : HP) (r : R Addr) : Prop :=
  ∀ D H', r = some (D, H') → ∀ (σ X : List Addr) (s : Shared) (Q : α → Shared → Prop) (E : Value → Shared → Prop), EnvOk h₀ env sc ρ σ X s.heap → InvH h₀ H σ X s.heap → Lv A X σ s.heap →
    (∀ e T σ' h' tk, Ext [] σ σ' s.heap h' → InvH h₀ H' σ' (T :: e :: X) h' → Lv A X σ' h' → s.heap.get? e = none → s.heap.get? T = none → Exc h' e T D .none → E (.ref e) { s with heap := h', toks := tk }) → wpAny (model prog w) A t Q E s
/-- calls raise what Φ says -/
noncomputable def PhiXOk (prog : Program) (w : World) (h₀ : Heap) (mg : Str → Option Value) (A : Around) (Φ : Phi) : Prop :=
  ∀ (base : Nat) (f : Str) (vs : List AV) (H : HP) (D : Addr) (H' : HP), Φ base (bang f) vs H = some (.obj D, H') → ∀ (fa : Addr), mg f = some (.ref fa) → ∀ (σ X : List Addr) (s : Shared) (cs : List Value) (Q E : Value → Shared → Prop),
    InvH h₀ H σ X s.heap → Lv A X σ s.heap → CvL s.heap σ X vs cs →
    (∀ e T σ' h' tk, Ext [] σ σ' s.heap h' → InvH h₀ H' σ' (T :: e :: X) h' → s.heap.get? e = none → s.heap.get? T = none → Exc h' e T D .none → E (.ref e) { s with heap := h', toks := tk }) → wpAny (model prog w) A (call (.ref fa) cs) Q E s

section
variable {prog : Program} {w : World} {h₀ : Heap} {A : Around} {env : Env} {sc : Scope} {ρ : Loc}
  {C : Cfg} {p : Program} {loose : List Str} {mean : ExcName → Option Value} {mg mb : Str → Option Value}
variable {h : Heap} {T e : Addr}
/-- the heap without an exception and its trace -/
noncomputable def noEx (h : Heap) (e T : Addr) : Heap := hide h fun b => b ∉ [T, e]
theorem noEx_keep {b : Addr} {o : Obj} (q : b ∉ [T, e]) (hb : h.get? b = some o) : (noEx h e T).get? b = some o := hide_of hb q
theorem RzE.rz {α : Type} {t : Sem α} {H : HP} {r : R Addr} (x : RzE prog w h₀ A env sc t ρ H r) : Rz prog w h₀ A env sc t ρ H r := by
  intro D H' e σ X s Q E ok I hX k
  refine x D H' e σ X s Q E ok I hX fun ex T σ1 h' tk E1 I1 L1 he hT xc => ?_
  have dead : ∀ a ∈ [T, ex], s.heap.get? a = none := fun a m => by
    rcases List.mem_cons.mp m with q | q
    · rw [q]; exact hT
    · rw [List.mem_singleton.mp q]; exact he
  have ndd : NoData h' (T :: ex :: X) [T, ex] := fun a m hx => absurd (List.mem_append_left X m) hx
  have In : InvH h₀ H' σ1 (T :: ex :: X) (noEx h' ex T) := I1.but (dead := [T, ex]) (fun b o q hb => noEx_keep q hb) ndd (fun a m => by
    cases q : h₀.get? a with
    | none => rfl
    | some o => have := I.keep _ _ q; rw [dead a m] at this; cases this) (fun a m r => I1.apart a r (List.mem_append_left X m))
  have En : Ext [] σ σ1 s.heap (noEx h' ex T) := E1.but dead fun b o q hb => noEx_keep q hb
  have hn : ∀ a ∈ [T, ex], (noEx h' ex T).get? a = none := fun a m => hide_none fun q => q m
  exact k ex σ1 (noEx h' ex T) h' tk (En.own fun _ m => nomatch m) (In.less fun a m => List.mem_cons_of_mem _ (List.mem_cons_of_mem _ m)) (hX.ext En)
    (.fly T .none xc (hn ex (List.mem_cons_of_mem _ List.mem_cons_self)) (hn T List.mem_cons_self) ⟨fun b o hb _ _ => (hide_some hb).1, fun b o hb _ => ⟨o.slots, (hide_some hb).1⟩⟩ (.inl rfl))
theorem Rz.none {α : Type} {t : Sem α} {H : HP} : Rz prog w h₀ A env sc t ρ H none := fun _ _ e => nomatch e
theorem RzE.none {α : Type} {t : Sem α} {H : HP} : RzE prog w h₀ A env sc t ρ H none := fun _ _ e => nomatch e

theorem exV_some {r : R AV} {D : Addr} {H : HP} (h : exV r = some (D, H)) : r = some (.obj D, H) := by
  unfold exV at h
  split at h
  · split at h
    · cases h; rfl
    · cases h
  · cases h
theorem rz_callE {f : Expr → HP → R AV} {Φ : Phi} {base : Nat} {g : Str} {gp pos : Pos} {es : List Expr} {d : DefRec} {H : HP} (G : Glb C p loose mean mg mb h₀) (hΦ : PhiXOk prog w h₀ mg A Φ) (hg : isGlob sc g = true) (hd : fnNames C g = some d)
    (hs : ∀ e ∈ es, ∀ H, Sim prog w h₀ A env sc ρ (eval e env) H (f e H) false) (hst : ∀ e p H, f (.Starred e p) H = none) :
    RzE prog w h₀ A env sc (eval (.Call (.Name g gp) es [] pos) env) ρ H (rzC Φ base g (es.map fun e H => f e H) H) := by
  intro D H' e σ X s Q E ok I hX k
  obtain ⟨vs, H1, e1, g1⟩ := bnd_some e
  have g1 := exV_some g1
  obtain ⟨hk, hdb⟩ := glob_kind ok hg
  have hmem : d ∈ C.fns := List.mem_of_find?_eq_some hd
  have hname : d.name = g := by
    have := List.find?_some (p := fun d : DefRec => decide (d.name = g)) hd
    exact of_decide_eq_true this
  obtain ⟨fa, o, pm, code, doc, hmg, ho, hdat, hcd⟩ := G.top.fn d (G.fns d hmem)
  rw [hname] at hmg
  have hgl : s.heap.Ns env.globals mg := by rw [ok.gl]; exact G.top.g.keeps I.keep
  refine Call_ (Name_function_global ok.kind hk (loadGlobal_global hgl hmg ?_) hdb) call_form
  obtain ⟨ha, hp⟩ := args_of (pos := pos) (fv := .ref fa) hs hst e1 (Q := fun x s₁ => (s₁.heap.get? fa = some o ∧ o.data = .func (docDef d.name d.params d.body d.scope pm code doc)) ∧ wpAny (model prog w) A (call (.ref fa) ([] ++ x.pos) x.kw) Q E s₁) (E := E) ok I hX (fun cs σ1 h1 tk1 E1 I1 C1 => ⟨⟨I1.keep _ _ ho, hdat⟩, by
    refine hΦ base g vs H1 D H' g1 fa hmg σ1 X _ cs Q E I1 (xlive hX E1) C1 fun e T σ2 h2 tk2 E2 I2 he hT x => ?_
    exact k e T σ2 h2 tk2 (E1.trans E2) I2 ((xlive hX E1).ext E2) (E1.none_back he) (E1.none_back hT) x⟩)
  exact callWith_function ha

theorem callOf_some {e : Expr} {z : Str × List Expr} (h : callOf e = some z) : ∃ gp pos, e = .Call (.Name z.1 gp) z.2 [] pos := by
  cases vw e with
  | ca f args kws pos q =>
    subst q
    cases kws with
    | cons _ _ => cases h
    | nil =>
      obtain ⟨g, hg, h'⟩ := Option.map_eq_some_iff.mp (show (nameOf f).map (fun g => (g, args)) = some z from h)
      obtain ⟨q, rfl⟩ := nameOf_some hg
      exact ⟨q, pos, by rw [← h']⟩
  | no _ _ h1 => rw [h1] at h; cases h
  | _ => rename_i q; subst q; cases h
theorem strC_some {c : Const} {s : Str} (h : strC c = some s) : c = .str s := by
  unfold strC at h
  split at h
  · cases h; rfl
  · cases h
theorem isStrC_some {e : Expr} (h : isStrC e = true) : ∃ s k q, e = .Constant (.str s) k q := by
  obtain ⟨s, h⟩ := Option.isSome_iff_exists.mp h
  obtain ⟨c, hc, h⟩ := Option.bind_eq_some_iff.mp h
  rw [strC_some h] at hc
  cases vw e with
  | co c' k p q => subst q; cases hc; exact ⟨s, k, p, rfl⟩
  | no _ _ _ h1 => rw [h1] at hc; cases hc
  | _ => rename_i q; subst q; cases hc
theorem rzR_some {fm : Fm} {exc cause : Option Expr} {D : Addr} (h : rzR C fm exc cause = some D) : ∃ x np s k q cpos, exc = some (.Call (.Name x np) [.Constant (.str s) k q] [] cpos) ∧ cause = none ∧ isGlob fm.sc x = true ∧ fm.hnd = false ∧ (x, D) ∈ C.exc := by
  obtain ⟨z, hz, h⟩ := Option.bind_eq_some_iff.mp h
  obtain ⟨e, he, hz⟩ := Option.bind_eq_some_iff.mp hz
  obtain ⟨np, cpos, hc⟩ := callOf_some hz
  split at h
  case isFalse => cases h
  rename_i hg
  have h1 := Bool.and_eq_true_iff.mp hg
  have h2 := Bool.and_eq_true_iff.mp h1.2
  have h3 := Bool.and_eq_true_iff.mp h2.2
  have h4 : ∃ s k q, z.2 = [.Constant (.str s) k q] := by
    match z.2, h3.1 with
    | [a], h => obtain ⟨s, k, q, rfl⟩ := isStrC_some h; exact ⟨s, k, q, rfl⟩
  obtain ⟨s, k, q, h4⟩ := h4
  exact ⟨z.1, np, s, k, q, cpos, by rw [he, hc, h4], Option.isNone_iff_eq_none.mp h1.1, h2.1, by simpa using h3.2, mem_of_lookup h⟩
theorem rz_raise {fm : Fm} {exc cause : Option Expr} {pos : Pos} {H : HP} (G : Glb C p loose mean mg mb h₀) (hB : fm.hnd = false → A.handled = none) : Rz prog w h₀ A env fm.sc (exec (.Raise exc cause pos) env) ρ H (lft (rzR C fm exc cause) H) := by
  intro D H' e σ X s Q E ok I hX k
  obtain ⟨e1, q1⟩ := lft_eq e
  subst q1
  obtain ⟨x, np, str, kk, q, cpos, rfl, rfl, hg, hm, hmem⟩ := rzR_some e1
  obtain ⟨hmg, bm, X0, _, _⟩ := G.exc x D hmem
  obtain ⟨N, nm, qn, bs, hdct, sn, sub, ab, col, dd, k0, k1, k2, k3, k5, mN, hC, hN, hq⟩ := X0.obj
  have hst : starEach [.Constant (.str str) kk q] env = (false, eval (.Constant (.str str) kk q) env) :: starEach [] env := rfl
  refine wpAny_Raise_call_subT (C := D) (nm := nm) (q := qn) (N := N) (bs := bs) (bm := bm) (hdct := hdct) (sn := sn) (sub := sub) (ab := ab) (col := col) (dd := dd) (k0 := k0) (k1 := k1) (k2 := k2) (k3 := k3) (k5 := k5)
    F.excBase_ValueError (mN := mN) (X0.tail.q.tail.hasType has_bexc) (hB hm) rfl (hq _ (.head _)) (glob_load G ok I hg hmg ⟨rfl, ?_⟩)
  obtain ⟨ha, _⟩ := args_of (prog := prog) (w := w) (f := fun e H => (match e with | .Constant c _ _ => lft (constV c) H | _ => none)) (es := [.Constant (.str str) kk q]) (vs := [.str str]) (H := H') (H' := H') (pos := cpos) (fv := .ref D) (Q := fun a s₂ => a.kw = [] ∧ a.pos.length ≤ sizeLine ∧ s₂.heap.get? D = some (excClassObj nm qn D N bs bm hdct sn sub ab col dd k0 k1 k2 k3 k5 "ValueError.__new__") ∧ s₂.heap.Ns N mN ∧ OwnTail s₂.heap bmV bm ∧
        ∀ h' e, Heap.MadeExcOf s₂.heap h' e (.ref D) a.pos → E (.ref e) { s₂ with heap := h' }) (E := E)
    (fun e m H => by rw [List.mem_singleton.mp m]; exact sim_const) (fun _ _ _ => rfl) rfl ok I hX (fun cs σ1 h1 tk1 E1 I1 C1 => ⟨rfl, by rw [C1.length]; exact Nat.le_trans (by decide : 1 ≤ sizeMax) sizeLine_ge, I1.keep _ _ hC, hN.keeps I1.keep, (X0.tail.keeps I1.keep).q.tail, fun h' e hx =>
      k e σ1 h1 h' tk1 (E1.own fun _ m => nomatch m) I1 (hX.ext E1) (.made _ hx)⟩)
  exact ha
theorem rz_if {t : Expr} {b o : List Stmt} {pos : Pos} {H : HP} {r : R Bool} {fb fo : HP → R Addr} (ht : SimB prog w h₀ A env sc ρ (isTrue t env (eval t env)) H r) (hb : ∀ H, Rz prog w h₀ A env sc (execs b env) ρ H (fb H))
    (ho : ∀ H, Rz prog w h₀ A env sc (execs o env) ρ H (fo H)) : Rz prog w h₀ A env sc (exec (.If t b o pos) env) ρ H (rzI r fb fo) := by
  intro D H' e' σ X s Q E ok I hX k
  obtain ⟨c, H1, e1, g1⟩ := bnd_some e'
  refine wpAny_If (ht c H1 e1 σ X s _ E ok I hX fun σ1 h1 tk1 E1 I1 => ?_)
  have E1' : Ext (ownA env) σ σ1 s.heap h1 := E1.own fun _ m => nomatch m
  cases c
  · exact ho H1 D H' g1 σ1 X _ Q E (ok.ext E1) I1 (xlive hX E1) fun e σ2 h2 h' tk2 E2 I2 L2 th => k e σ2 h2 h' tk2 (E1'.trans E2) I2 L2 th
  · exact hb H1 D H' g1 σ1 X _ Q E (ok.ext E1) I1 (xlive hX E1) fun e σ2 h2 h' tk2 E2 I2 L2 th => k e σ2 h2 h' tk2 (E1'.trans E2) I2 L2 th
theorem rzq_some {r : RS} {k : Loc → HP → R Addr} {x : R Addr} {z : Addr × HP} (h : rzq r k x = some z) : (∃ ρ H, r = some (.next, ρ, H) ∧ k ρ H = some z) ∨ (r = none ∧ x = some z) := by
  unfold rzq at h
  split at h
  · split at h
    · exact .inl ⟨_, _, rfl, h⟩
    · cases h
  · exact .inr ⟨rfl, h⟩
theorem rz_cons {st : Stmt} {rest : List Stmt} {H : HP} {r : RS} {f : Loc → HP → R Addr} {x : R Addr} (h1 : SimS prog w h₀ A env sc (exec st env) ρ H r) (hx : Rz prog w h₀ A env sc (exec st env) ρ H x) (h2 : ∀ ρ H, Rz prog w h₀ A env sc (execs rest env) ρ H (f ρ H)) :
    Rz prog w h₀ A env sc (execs (st :: rest) env) ρ H (rzq r f x) := by
  intro D H' e' σ X s Q E ok I hX k
  refine wpAny_execs_cons ?_
  rcases rzq_some e' with ⟨ρ1, H1, e1, g1⟩ | ⟨_, g1⟩
  · refine h1 _ _ _ e1 σ X s _ E ok I hX fun cf σ1 h1 tk1 E1 ok1 I1 F1 => ?_
    cases cf <;> first | exact F1.elim | skip
    exact h2 ρ1 H1 D H' g1 σ1 X _ Q E ok1 I1 (xliveO hX E1) fun e σ2 h2 h' tk2 E2 I2 L2 th => k e σ2 h2 h' tk2 (E1.trans E2) I2 L2 th
  · exact hx D H' g1 σ X s _ E ok I hX k
end
end Mine

namespace Mine
open PySem PyProof.Rows PySem.Calls

section
variable {prog : Program} {w : World} {h₀ : Heap} {A : Around} {env : Env} {sc : Scope} {ρ : Loc}

theorem letOwned_noop {t : Expr} {src : AV} {xs : List AV} {I : Addr} {i : Nat} {σ X : List Addr} {s : Shared} {v : Value} {Q : Unit → Shared → Prop} {E : Value → Shared → Prop} (it : IterAt src xs I i σ X s.heap) (h : Q () s) :
    wpAny (model prog w) A (letOwnedTupleGo t (.ref I) v) Q E s := by
  have key : ∀ n, (n = "list_iterator" ∨ n = "tuple_iterator" ∨ n = "range_iterator") → ∀ o, s.heap.get? I = some o → o.cls = .type n → wpAny (model prog w) A (letOwnedTupleGo t (.ref I) v) Q E s := by
    intro n hn o ho hc
    have no : (["enumerate", "zip", "dict_itemiterator", "dict_reverseitemiterator", "odict_iterator", "itertools.zip_longest", "itertools.pairwise"].contains n) = false := by
      rcases hn with rfl | rfl | rfl <;> decide
    have go : ∀ a, wpAny (model prog w) A (do
        let o ← load I
        match o.cls, o.data with
        | .type n, .fields vs =>
          if (["enumerate", "zip", "dict_itemiterator", "dict_reverseitemiterator", "odict_iterator", "itertools.zip_longest", "itertools.pairwise"].contains n && vs[0]? == some (rawInt a)) = true then do
            rule "for.unpacks-the-owned-tuple"
            updateField I 0 .none
          else pure ()
        | _, _ => pure ()) Q E s := by
      intro a
      refine wpAny_bind (wpAny_load ho ?_)
      cases o with
      | mk c dd dt sl =>
        dsimp only at hc
        subst hc
        cases dt with
        | fields vs =>
          show wpAny _ _ (if _ then _ else _) Q E s
          rw [no, Bool.false_and, if_neg (by decide)]
          exact wpAny_pure h
        | _ => exact wpAny_pure h
    have hv : ∀ (f : Value × Value → Sem Unit), (∀ a, f (.ref I, .ref a) = (do
        let o ← load I
        match o.cls, o.data with
        | .type n, .fields vs =>
          if (["enumerate", "zip", "dict_itemiterator", "dict_reverseitemiterator", "odict_iterator", "itertools.zip_longest", "itertools.pairwise"].contains n && vs[0]? == some (rawInt a)) = true then do
            rule "for.unpacks-the-owned-tuple"
            updateField I 0 .none
          else pure ()
        | _, _ => pure ())) → (∀ u, (∀ a, u ≠ .ref a) → f (.ref I, u) = pure ()) → wpAny (model prog w) A (f (.ref I, v)) Q E s := fun f h1 h2 => by
      by_cases q : ∃ a, v = .ref a
      · obtain ⟨a, rfl⟩ := q; rw [h1]; exact go a
      · rw [h2 v fun a e => q ⟨a, e⟩]; exact wpAny_pure h
    cases t with
    | Tuple _ _ _ => exact hv (fun p => letOwnedTupleGo (.Tuple _ _ _) p.1 p.2) (fun a => rfl) (fun u hu => by cases u <;> first | rfl | exact absurd rfl (hu _))
    | List _ _ => exact hv (fun p => letOwnedTupleGo (.List _ _) p.1 p.2) (fun a => rfl) (fun u hu => by cases u <;> first | rfl | exact absurd rfl (hu _))
    | _ => exact wpAny_pure h
  cases src <;> first | exact it.elim | skip
  · obtain ⟨ax, vs, n, ⟨o, ho, hc, _⟩, _⟩ := it; exact key _ (.inr (.inl rfl)) o ho hc
  · obtain ⟨ax, vs, n, ⟨o, ho, hc, _⟩, _⟩ := it; exact key _ (.inl rfl) o ho hc
  · obtain ⟨_, x⟩ := it; exact key _ (.inr (.inr rfl)) _ x rfl
  · obtain ⟨ax, ⟨o, ho, hc, _⟩, _⟩ := it; exact key _ (.inl rfl) o ho hc


noncomputable def Kept (Js : List Addr) (h h' : Heap) : Prop := ∀ b o, b ∉ Js → h.get? b = some o → h'.get? b = some o
noncomputable def Alone (Js : List Addr) (h : Heap) : Prop := ∀ a ∈ Js, ∃ o, h.get? a = some o ∧ ¬ Obj.isData o ∧ noDict o
theorem Kept.ext {Js σ : List Addr} {h h' : Heap} (k : Kept Js h h') (t : Alone Js h) (t' : Alone Js h') (n : ∀ a ∈ Js, a ∉ σ) : Ext Js σ σ h h' :=
  ⟨fun b o e _ q _ => k b o q e, fun b o e _ q => ⟨o.slots, k b o q e⟩, fun b o e => by
    by_cases q : b ∈ Js
    · obtain ⟨o', e', _⟩ := t' b q
      obtain ⟨o2, e2, _, nd⟩ := t b q
      rw [e] at e2; cases e2
      exact ⟨o', e', fun d => absurd d nd⟩
    · exact ⟨o, k b o q e, id⟩, List.prefix_refl _, fun _ m => .inl m, fun b o mb e => ⟨o, k b o (fun q => n b q mb) e, Iff.rfl⟩⟩
theorem Alone.noData {Js X : List Addr} {h : Heap} (t : Alone Js h) : NoData h X Js := fun a m _ o e => by
  obtain ⟨o', e', nd, _⟩ := t a m
  rw [e] at e'; cases e'; exact nd

/-- what a loop's iterator does -/
structure Itr (prog : Program) (w : World) (A : Around) (h₀ : Heap) (t : Expr) (J : Addr) (Js : List Addr) (xs : List AV) (IA : Nat → List Addr → List Addr → Heap → Prop) : Prop where
  there : ∀ {i σ X h}, IA i σ X h → Alone Js h
  ext : ∀ {i σ σ' X own h h'}, IA i σ X h → Ext own σ σ' h h' → NoData h X own → (∀ a ∈ Js, a ∉ σ ∧ a ∉ own) → IA i σ' X h'
  next : ∀ {i σ X H s x} {Q : Option Value → Shared → Prop} {E : Value → Shared → Prop}, IA i σ X s.heap → InvH h₀ H σ X s.heap → (∀ a ∈ Js, a ∉ σ) → Lv A X σ s.heap → xs[i]? = some x →
    (∀ v s1, (∀ {Q' : Unit → Shared → Prop} {E' : Value → Shared → Prop}, (∀ h' tk, Kept Js s.heap h' → IA (i + 1) σ X h' → Cv h' σ X x v → Q' () { s with heap := h', toks := tk }) → wpAny (model prog w) A (letOwnedTupleGo t (.ref J) v) Q' E' s1) → Q (some v) s1) →
    wpAny (model prog w) A (pyNext (.ref J)) Q E s
  done : ∀ {σ X H s} {Q : Option Value → Shared → Prop} {E : Value → Shared → Prop}, A.handled = none → IA xs.length σ X s.heap → InvH h₀ H σ X s.heap → (∀ h', Kept Js s.heap h' → Q none { s with heap := h' }) → wpAny (model prog w) A (pyNext (.ref J)) Q E s

/-- how a loop begins -/
noncomputable def Begins (prog : Program) (w : World) (h₀ : Heap) (A : Around) (env : Env) (sc : Scope) (ρ : Loc) (t iter : Expr) (it : HP → R AV) : Prop :=
  ∀ {H : HP} {src : AV} {H' : HP} {xs : List AV}, it H = some (src, H') → iterOf src = some xs → ∀ {σ X : List Addr} {s : Shared} {Q E : Value → Shared → Prop}, EnvOk h₀ env sc ρ σ X s.heap → InvH h₀ H σ X s.heap → Lv A X σ s.heap →
    (∀ J Js IA σ1 h2 tk, Ext [] σ σ1 s.heap h2 → InvH h₀ H' σ1 X h2 → (∀ a ∈ Js, s.heap.get? a = none ∧ a ∉ σ1) → Itr prog w A h₀ t J Js xs IA → IA 0 σ1 X h2 → Q (.ref J) { s with heap := h2, toks := tk }) →
    wpAny (model prog w) A (eval iter env) (fun x s1 => wpAny (model prog w) A (pyIter x) Q E s1) E s

theorem begins_plain {t iter : Expr} {it : HP → R AV} (hi : ∀ H, Sim prog w h₀ A env sc ρ (eval iter env) H (it H) false) : Begins prog w h₀ A env sc ρ t iter it := by
  intro H src H2 xs e1 e3 σ X s Q E ok I hX k
  refine hi H src H2 e1 σ X s _ E ok I hX fun cv σ1 h1 tk1 E1 I1 C1 _ => ?_
  have st : ∀ H, still src xs H := fun H => by cases src <;> first | trivial | cases e3
  have e3' : iterC H2 src = some xs := by cases src <;> first | exact e3 | cases e3
  refine iter_start (s := { s with heap := h1, toks := tk1 }) I1 C1 e3' fun J h2 hJ hk2 it2 => ?_
  have one : ∀ {h h' : Heap}, Heap.ExtBut J h h' → Kept [J] h h' := fun k b o q e => k b o (fun r => q (List.mem_singleton.mpr r)) e
  refine k J [J] (fun i σ X h => IterAt src xs J i σ X h) σ1 h2 tk1 (E1.trans (Ext.of_keeps hk2)) (I1.keeps hk2) (fun a m => ?_) ⟨fun x a m => ?_, fun x E nd q => x.ext E nd (q J List.mem_cons_self).1 (q J List.mem_cons_self).2, fun x I q L e kk => ?_, fun hh x I kk => iter_done hh I (st _) x fun h' b => kk h' (one b)⟩ it2
  · cases List.mem_singleton.mp m
    exact ⟨E1.none_back hJ, fun m => by obtain ⟨o, q⟩ := I1.there m; rw [hJ] at q; cases q⟩
  · cases List.mem_singleton.mp m
    obtain ⟨o, e, d⟩ := x.there
    exact ⟨o, e, d, x.noD o e⟩
  · exact iter_next (q J List.mem_cons_self) I (st _) x e fun v h' tk sb it' cv => kk v _ fun k' => letOwned_noop it' (k' h' tk (one sb.extBut) it' cv)

theorem enumL_get : ∀ {xs : List AV} {k i : Nat} {x : AV}, (enumL k xs)[i]? = some x → ∃ y, xs[i]? = some y ∧ x = .tup [.int ((k + i : Nat) : Int), y]
  | [], _, _, _, e => by cases e
  | y :: r, k, 0, x, e => by cases e; exact ⟨y, rfl, rfl⟩
  | y :: r, k, i + 1, x, e => by
    obtain ⟨z, h1, h2⟩ := enumL_get (xs := r) (k := k + 1) (i := i) e
    exact ⟨z, h1, by rw [h2, Nat.add_right_comm]; rfl⟩
theorem enumL_len : ∀ {xs : List AV} {k : Nat}, (enumL k xs).length = xs.length
  | [], _ => rfl
  | _ :: r, k => congrArg Nat.succ (enumL_len (xs := r) (k := k + 1))

inductive EnAt (e it l : Addr) (vs : List Value) (n : Nat) (xs : List AV) (i : Nat) (σ X : List Addr) (h : Heap) : Prop
  | mk (old : Value) (h1 : IsEnum h e it (i : Int) old) (h2 : h.IsListIter it l i) (h3 : h.get? l = some (listO vs n)) (h4 : l ∉ σ) (h5 : l ∉ X) (h6 : CvL h σ X xs vs)

theorem EnAt.there {e it l : Addr} {vs : List Value} {n : Nat} {xs : List AV} {i : Nat} {σ X : List Addr} {h : Heap} (x : EnAt e it l vs n xs i σ X h) : Alone [e, it] h := by
  obtain ⟨old, h1, ⟨o, ho, hc, hd⟩, _⟩ := x
  intro a m
  rcases List.mem_cons.mp m with rfl | m
  · exact ⟨_, h1, fun d => d.clsNo (T := "enumerate") rfl ⟨by decide, by decide, by decide⟩, fun ⟨_, _, q⟩ => nomatch q⟩
  · cases List.mem_singleton.mp m
    exact ⟨o, ho, fun d => d.clsNo hc ⟨by decide, by decide, by decide⟩, fun ⟨_, _, q⟩ => by rw [hd] at q; cases q⟩
theorem EnAt.ext {e it l : Addr} {vs : List Value} {n : Nat} {xs : List AV} {i : Nat} {σ σ' X own : List Addr} {h h' : Heap} (x : EnAt e it l vs n xs i σ X h) (E : Ext own σ σ' h h') (nd : NoData h X own) (q : ∀ a ∈ [e, it], a ∉ σ ∧ a ∉ own) : EnAt e it l vs n xs i σ' X h' := by
  obtain ⟨old, h1, ⟨o, ho, hc, hd⟩, h3, h4, h5, h6⟩ := x
  have qe := q e List.mem_cons_self
  have qi := q it (List.mem_cons_of_mem _ List.mem_cons_self)
  exact ⟨old, E.keep _ _ h1 qe.1 qe.2 (fun ⟨_, _, q⟩ => nomatch q), ⟨o, E.keep _ _ ho qi.1 qi.2 (fun ⟨_, _, q⟩ => by rw [hd] at q; cases q), hc, hd⟩,
    E.keep _ _ h3 h4 (fun m => nd l m h5 _ h3 (.inl ⟨_, _, rfl⟩)) noDict_list, fun m => (E.new _ m).elim h4 fun q => (by rw [h3] at q; cases q), h5, h6.ext E nd⟩

theorem itr_enum {es : List Expr} {x1} {tp : Pos} {e it l : Addr} {vs : List Value} {n : Nat} {xs : List AV} (hne : e ≠ it) : Itr prog w A h₀ (.Tuple es x1 tp) e [e, it] (enumL 0 xs) (EnAt e it l vs n xs) where
  there := EnAt.there
  ext := EnAt.ext
  next := by
    intro i σ X H s x Q E at0 I q L hx k
    have al := at0.there
    have at1 := at0
    obtain ⟨old, h1, h2, h3, h4, h5, h6⟩ := at0
    obtain ⟨y, hy, rfl⟩ := enumL_get hx
    obtain ⟨v, hv, cv⟩ := h6.get hy
    have hl : l ≠ e ∧ l ≠ it := ⟨fun q => (by rw [q] at h3; rw [h1] at h3; simp at h3), fun q => (by obtain ⟨o, ho, hc, _⟩ := h2; rw [← q, h3] at ho; cases ho; simp at hc)⟩
    refine wpAny_pyNext_enum_item h1 h2 ⟨_, h3, rfl, n, rfl⟩ (x := v) (by simpa using hv) hne fun hA o1 i1 t1 _ k1 => k _ _ fun k' => wpAny_letOwnedTupleGo_enum o1 fun hB e2 s2 => ?_
    replace s2 : Heap.SameBut e hA hB := s2
    have new : ∀ b, (∃ o, s.heap.get? b = some o) → b ≠ s.heap.objs.size := fun b ⟨o, ho⟩ => Nat.ne_of_lt (Heap.lt_size ho)
    have kb : Kept [e, it] s.heap hB := fun b o nb eb => by
      have n1 : b ≠ e := fun r => nb (r ▸ List.mem_cons_self)
      have n2 : b ≠ it := fun r => nb (r ▸ List.mem_cons_of_mem _ List.mem_cons_self)
      exact (s2.2 b n1).trans (k1 b o n1 n2 eb)
    have al' : Alone [e, it] hB := by
      obtain ⟨o, ho, hc, hd⟩ := i1
      intro a m
      rcases List.mem_cons.mp m with rfl | m
      · exact ⟨_, e2, fun d => d.clsNo (T := "enumerate") rfl ⟨by decide, by decide, by decide⟩, fun ⟨_, _, q⟩ => nomatch q⟩
      · cases List.mem_singleton.mp m
        exact ⟨o, (s2.2 _ (Ne.symm hne)).trans ho, fun d => d.clsNo hc ⟨by decide, by decide, by decide⟩, fun ⟨_, _, q⟩ => by rw [hd] at q; cases q⟩
    have E' := kb.ext al al' q
    have c6 := h6.ext E' al.noData
    have heq : e ≠ s.heap.objs.size := new e ⟨_, h1⟩
    refine k' hB (s.toks + 1) kb ⟨v, ?_, ?_, kb l _ (fun m => (List.mem_cons.mp m).elim hl.1 fun m => hl.2 (List.mem_singleton.mp m)) h3, h4, h5, c6⟩ (.tup (n := 0) (vs := [.int i s.toks, v]) ((s2.2 _ (Ne.symm heq)).trans t1) (fun m => new _ (I.there m) rfl) (fun m => new _ (L.x _ m) rfl) (show 2 ≤ 1048576 by lia) (.cons (by rw [Nat.zero_add]; exact .int _ _) (.cons (cv.ext E' al.noData) .nil)))
    · have : ((i + 1 : Nat) : Int) = (i : Int) + 1 := by push_cast; rfl
      rw [this]; exact e2
    · obtain ⟨o, ho, r⟩ := i1; exact ⟨o, (s2.2 _ (Ne.symm hne)).trans ho, r⟩
  done := by
    intro σ X H s Q E hh at0 I k
    obtain ⟨old, h1, h2, h3, h4, h5, h6⟩ := at0
    exact wpAny_pyNext_enum_end hh h1 h2 ⟨_, h3, rfl, n, rfl⟩ (items := vs.toArray) (by simp [h6.length, enumL_len]) fun h' x => k h' fun b o nb eb => x b o (fun r => nb (r ▸ List.mem_cons_of_mem _ List.mem_cons_self)) eb

variable {C : Cfg} {p : Program} {loose : List Str} {mean : ExcName → Option Value} {mg mb : Str → Option Value}
theorem enumOf_some {t iter x : Expr} (h : enumOf sc t iter = some x) : (∃ es n q, t = .Tuple es n q) ∧ ∃ g gp pos, iter = .Call (.Name g gp) [x] [] pos ∧ g = "enumerate" ∧ isGlob sc g = true := by
  unfold enumOf at h
  cases hc : callOf iter with
  | none => rw [hc] at h; cases h
  | some z =>
    obtain ⟨gp, pos, rfl⟩ := callOf_some hc
    rw [hc] at h
    simp only [Option.bind_some] at h
    split at h
    case isFalse => cases h
    rename_i hb
    obtain ⟨ht, hg, hi⟩ := Bool.and_eq_true_iff.mp hb |>.imp_right Bool.and_eq_true_iff.mp
    obtain ⟨g, args⟩ := z
    dsimp only at h
    split at h
    case h_2 => cases h
    cases h
    exact ⟨let ⟨_, ht⟩ := Option.isSome_iff_exists.mp ht; let ⟨n, q, e⟩ := tupOf_some ht; ⟨_, n, q, e⟩, _, _, _, rfl, of_decide_eq_true hg, hi⟩

theorem begins_enum {t iter x : Expr} {f : Expr → HP → R AV} (G : Glb C p loose mean mg mb h₀) (hx : enumOf sc t iter = some x) (hi : ∀ H, Sim prog w h₀ A env sc ρ (eval x env) H (f x H) false) (hst : ∀ e p H, f (.Starred e p) H = none) :
    Begins prog w h₀ A env sc ρ t iter fun H => enumR (f x H) := by
  intro H src H' xs e1 e3 σ X s Q E ok I hX k
  obtain ⟨v, H1, q1, g1⟩ := bnd_some e1
  obtain ⟨q2, q3⟩ := lft_eq g1
  subst q3
  obtain ⟨⟨es, n, tp, rfl⟩, g, gp, pos, rfl, hg, hgl⟩ := enumOf_some hx
  have hev : evA ([x].map fun e H => f e H) H = some ([v], H') := by
    simp only [List.map_cons, List.map_nil, evA]
    rw [q1]; rfl
  refine Call_ (blt_load (v := .type "enumerate") G ok I hgl (by rw [hg]; decide +kernel) (by rw [hg]; decide +kernel) ?_) call_form
  obtain ⟨ha, hp⟩ := args_of (pos := pos) (fv := .type "enumerate") (fun e m H => by cases List.mem_singleton.mp m; exact hi H) hst hev (Q := fun x s₁ => wpAny (model prog w) A (call (.type "enumerate") x.pos x.kw) (fun x s1 => wpAny (model prog w) A (pyIter x) Q E s1) E s₁) (E := E) ok I hX (fun cs σ1 h1 tk1 E1 I1 C1 => by
    cases C1 with | cons c r => cases r with | nil =>
    cases c with
    | @list _ a vs n hg h1' h2' _ r =>
      cases q2
      cases e3
      refine call_enumerate_list (s := { s with heap := h1, toks := tk1 }) (items := vs.toArray) ⟨_, hg, rfl, n, rfl⟩ fun h2 ie ii _ k2 => ?_
      refine wpAny_pyIter_enum (s := { s with heap := h2, toks := tk1 }) ie ?_
      have hz : ∀ j, h1.get? (h1.objs.size + j) = none := fun j => by
        cases q : h1.get? (h1.objs.size + j) with
        | none => rfl
        | some o => exact absurd (Heap.lt_size q) (Nat.not_lt.mpr (Nat.le_add_right _ _))
      refine k _ [h1.objs.size + 1, h1.objs.size] (EnAt _ _ a vs n _) σ1 h2 tk1 (E1.trans (Ext.of_keeps k2)) (I1.keeps k2) (fun b m => ?_) (itr_enum (Nat.succ_ne_self _)) ⟨_, ie, ii, k2 _ _ hg, h1', h2', r.keeps k2⟩
      have hb : h1.get? b = none := by
        rcases List.mem_cons.mp m with rfl | m
        · exact hz 1
        · cases List.mem_singleton.mp m; exact hz 0
      exact ⟨E1.none_back hb, fun m => by obtain ⟨o, q⟩ := I1.there m; rw [hb] at q; cases q⟩
    | _ => cases q2)
  exact PySem.callWith_type (first := []) hp ha

/-- what holds at each turn of a loop -/
inductive ForAt (h₀ : Heap) (Js : List Addr) (IA : Nat → List Addr → List Addr → Heap → Prop) (xs : List AV) (fb : Loc → HP → RS) (tgt : AV → Loc → Option Loc) (fl : Fl) (ρ' : Loc) (H' : HP) (env : Env) (sc : Scope) (s : Shared) (σ X : List Addr) (n : Nat) (s' : Shared) : Prop
  | mk (i : Nat) (ρ3 : Loc) (H3 : HP) (σ3 : List Addr) (h3 : Heap) (tk : Nat) (hs : s' = { s with heap := h3, toks := tk }) (hi : i ≤ xs.length) (hn : n = xs.length + 1 - i) (e : forL fb tgt (xs.drop i) ρ3 H3 = some (fl, ρ', H')) (it : IA i σ3 X h3) (hJ : ∀ a ∈ Js, a ∉ σ3)
      (ok : EnvOk h₀ env sc ρ3 σ3 X h3) (I : InvH h₀ H3 σ3 X h3) (E : Ext (Js ++ ownA env) σ σ3 s.heap h3)

theorem sim_for {t iter : Expr} {b : List Stmt} {pos : Pos} {H : HP} {it : HP → R AV} {fb : Loc → HP → RS} (hh : A.handled = none) (hset : ∀ x, foldedSetIterable iter env x = pure x)
    (hi : Begins prog w h₀ A env sc ρ t iter it) (hb : ∀ ρ H, SimS prog w h₀ A env sc (execs b env) ρ H (fb ρ H)) :
    SimS prog w h₀ A env sc (exec (.For t iter b [] pos) env) ρ H (forR fb (bindTgt sc t) it ρ H) := by
  intro fl ρ' H' e' σ X s Q E ok I hX k
  obtain ⟨src, H1, e1, g1⟩ := bnd_some e'
  obtain ⟨xs, H2, e2, g2⟩ := bnd_some g1
  obtain ⟨e3, q3⟩ := lft_eq e2
  subst q3
  refine wpAny_For (hi e1 e3 ok I hX fun J Js IA σ1 h2 tk1 E1 I2 nw IT it2 => ?_) hset
  have ok2 : EnvOk h₀ env sc ρ σ1 X h2 := ok.ext E1
  have hJo : ∀ a ∈ Js, a ∉ ownA env := fun a q m => by obtain ⟨o, r⟩ := ok.ownThere a m; rw [(nw a q).1] at r; cases r
  have hJσ : ∀ a ∈ Js, a ∉ σ1 := fun a q => (nw a q).2
  have hJs : ∀ a ∈ Js, s.heap.get? a = none := fun a q => (nw a q).1
  have hJ0 : ∀ a ∈ Js, h₀.get? a = none := fun a m => by
    cases q : h₀.get? a with
    | none => rfl
    | some o => have r := hJs a m; rw [I.keep _ _ q] at r; cases r
  have E12 : Ext (Js ++ ownA env) σ σ1 s.heap h2 := E1.own fun _ m => nomatch m
  have dropJ : ∀ {σ' h'}, Ext (Js ++ ownA env) σ σ' s.heap h' → Ext (ownA env) σ σ' s.heap h' := fun E => E.drop fun a m => (List.mem_append.mp m).elim (fun m => .inr (hJs a m)) .inl
  refine codeAny_forLoop_any (ForAt h₀ Js IA xs fb (bindTgt sc t) fl ρ' H' env sc s σ X) ?_ (xs.length + 1) ⟨0, ρ, H2, σ1, h2, tk1, rfl, Nat.zero_le _, rfl, g2, it2, hJσ, ok2, I2, E12⟩
  rintro n s' ⟨i, ρ3, H3, σ3, h3, tk, rfl, hi3, rfl, e4, it3, hJ3, ok3, I3, E3⟩
  have al3 := IT.there it3
  have nd3 : NoData h3 X Js := al3.noData
  by_cases hlt : i < xs.length
  case neg =>
    have hi' : i = xs.length := by lia
    subst hi'
    rw [List.drop_length] at e4
    cases e4
    refine IT.done (s := { s with heap := h3, toks := tk }) hh it3 I3 fun h4 kb => wpAny_execs_nil ?_
    exact k .next σ3 h4 tk ((dropJ E3).but (dead := Js) hJs kb) (ok3.but hJ3 kb nd3 fun b mb mj => hJo b mj mb) (I3.but kb nd3 hJ0 hJ3) trivial
  case pos =>
    have hx : xs[i]? = some xs[i] := List.getElem?_eq_getElem hlt
    rw [List.drop_eq_getElem_cons hlt] at e4
    generalize xs[i] = v at hx e4
    simp only [forL] at e4
    split at e4
    case h_2 => cases e4
    rename_i ρ4 hb4
    refine IT.next (s := { s with heap := h3, toks := tk }) it3 I3 hJ3 (xliveO hX E3) hx fun cv s1 go => go fun h4 tk4 kb4 it4 cv4 => ?_
    have E4 : Ext Js σ3 σ3 h3 h4 := kb4.ext al3 (IT.there it4) hJ3
    have ok4 := ok3.extO E4 nd3 (fun b m q => hJo b q m)
    have I4 := I3.stay E4 (fun b o e q => kb4 b o q e) (fun a ma o e => kb4 a o (fun q => hJ3 a q ma) e) nd3 hJ0
    refine assign_tgt (s := { s with heap := h4, toks := tk4 }) hh hb4 ok4 I4 cv4 fun h5 tk5 E5 ok5 I5 => ?_
    have E4' : Ext (Js ++ ownA env) σ σ3 s.heap h4 := E3.trans (E4.own fun a m => List.mem_append.mpr (.inl m))
    have hX5 : Lv A X _ h5 := xliveO (xliveO hX E4') E5
    have toJ : ∀ {σ σ' : List Addr} {h h' : Heap}, Ext (ownA env) σ σ' h h' → Ext (Js ++ ownA env) σ σ' h h' := fun E => E.own fun a m => List.mem_append.mpr (.inr m)
    rcases sq_some e4 with ⟨ρ6, H6, e6, g6⟩ | ⟨u, ρ6, H6, e6, g6⟩
    · refine hb ρ4 H3 _ _ _ e6 σ3 X { s with heap := h5, toks := tk5 } _ _ ok5 I5 hX5 fun cf σ6 h6 tk6 E6 ok6 I6 F6 => ?_
      cases cf <;> first | exact F6.elim | skip
      exact ⟨xs.length + 1 - (i + 1), by lia, ⟨i + 1, ρ6, H6, σ6, h6, tk6, rfl, by lia, rfl, g6, IT.ext it4 (E5.trans E6) ok4.noData (fun a m => ⟨hJ3 a m, hJo a m⟩), fun a m => (E5.trans E6).notNew (hJ3 a m) (let ⟨o, e, _⟩ := IT.there it4 a m; ⟨o, e⟩), ok6, I6, E4'.trans (toJ (E5.trans E6))⟩⟩
    · cases g6
      refine hb ρ4 H3 _ _ _ e6 σ3 X { s with heap := h5, toks := tk5 } _ _ ok5 I5 hX5 fun cf σ6 h6 tk6 E6 ok6 I6 F6 => ?_
      cases cf <;> first | exact F6.elim | skip
      exact k _ σ6 h6 tk6 (dropJ (E4'.trans (toJ (E5.trans E6)))) ok6 I6 F6

/-- what holds at each turn of a loop that raises -/
inductive RzAt (h₀ : Heap) (Js : List Addr) (IA : Nat → List Addr → List Addr → Heap → Prop) (xs : List AV) (fb : Loc → HP → RS) (rb : Loc → HP → R Addr) (tgt : AV → Loc → Option Loc) (D : Addr) (H' : HP) (env : Env) (sc : Scope) (s : Shared) (σ X : List Addr) (n : Nat) (s' : Shared) : Prop
  | mk (i : Nat) (ρ3 : Loc) (H3 : HP) (σ3 : List Addr) (h3 : Heap) (tk : Nat) (hs : s' = { s with heap := h3, toks := tk }) (hi : i ≤ xs.length) (hn : n = xs.length + 1 - i) (e : rzL fb rb tgt (xs.drop i) ρ3 H3 = some (D, H')) (it : IA i σ3 X h3) (hJ : ∀ a ∈ Js, a ∉ σ3)
      (ok : EnvOk h₀ env sc ρ3 σ3 X h3) (I : InvH h₀ H3 σ3 X h3) (E : Ext (Js ++ ownA env) σ σ3 s.heap h3)

theorem rz_for {t iter : Expr} {b : List Stmt} {pos : Pos} {H : HP} {it : HP → R AV} {fb : Loc → HP → RS} {rb : Loc → HP → R Addr} (fr : FrE h₀ A env) (hh : A.handled = none) (hset : ∀ x, foldedSetIterable iter env x = pure x)
    (hi : Begins prog w h₀ A env sc ρ t iter it) (hb : ∀ ρ H, SimS prog w h₀ A env sc (execs b env) ρ H (fb ρ H)) (hr : ∀ ρ H, Rz prog w h₀ A env sc (execs b env) ρ H (rb ρ H)) :
    Rz prog w h₀ A env sc (exec (.For t iter b [] pos) env) ρ H (rzF fb rb (bindTgt sc t) it ρ H) := by
  intro D H' e' σ X s Q E ok I hX k
  obtain ⟨src, H1, e1, g1⟩ := bnd_some e'
  obtain ⟨xs, H2, e2, g2⟩ := bnd_some g1
  obtain ⟨e3, q3⟩ := lft_eq e2
  subst q3
  refine wpAny_For (hi e1 e3 ok I hX fun J Js IA σ1 h2 tk1 E1 I2 nw IT it2 => ?_) hset
  have ok2 : EnvOk h₀ env sc ρ σ1 X h2 := ok.ext E1
  have hJo : ∀ a ∈ Js, a ∉ ownA env := fun a q m => by obtain ⟨o, r⟩ := ok.ownThere a m; rw [(nw a q).1] at r; cases r
  have hJσ : ∀ a ∈ Js, a ∉ σ1 := fun a q => (nw a q).2
  have hJs : ∀ a ∈ Js, s.heap.get? a = none := fun a q => (nw a q).1
  have hJ0 : ∀ a ∈ Js, h₀.get? a = none := fun a m => by
    cases q : h₀.get? a with
    | none => rfl
    | some o => have r := hJs a m; rw [I.keep _ _ q] at r; cases r
  have E12 : Ext (Js ++ ownA env) σ σ1 s.heap h2 := E1.own fun _ m => nomatch m
  have dropJ : ∀ {σ' h'}, Ext (Js ++ ownA env) σ σ' s.heap h' → Ext (ownA env) σ σ' s.heap h' := fun E => E.drop fun a m => (List.mem_append.mp m).elim (fun m => .inr (hJs a m)) .inl
  refine codeAny_forLoop_any (RzAt h₀ Js IA xs fb rb (bindTgt sc t) D H' env sc s σ X) ?_ (xs.length + 1) ⟨0, ρ, H2, σ1, h2, tk1, rfl, Nat.zero_le _, rfl, g2, it2, hJσ, ok2, I2, E12⟩
  rintro n s' ⟨i, ρ3, H3, σ3, h3, tk, rfl, hi3, rfl, e4, it3, hJ3, ok3, I3, E3⟩
  have al3 := IT.there it3
  have nd3 : NoData h3 X Js := al3.noData
  by_cases hlt : i < xs.length
  case neg =>
    have hi' : i = xs.length := by lia
    subst hi'
    rw [List.drop_length] at e4
    cases e4
  case pos =>
    have hx : xs[i]? = some xs[i] := List.getElem?_eq_getElem hlt
    rw [List.drop_eq_getElem_cons hlt] at e4
    generalize xs[i] = v at hx e4
    simp only [rzL] at e4
    split at e4
    case h_2 => cases e4
    rename_i ρ4 hb4
    refine IT.next (s := { s with heap := h3, toks := tk }) it3 I3 hJ3 (xliveO hX E3) hx fun cv s1 go => go fun h4 tk4 kb4 it4 cv4 => ?_
    have E4 : Ext Js σ3 σ3 h3 h4 := kb4.ext al3 (IT.there it4) hJ3
    have ok4 := ok3.extO E4 nd3 (fun b m q => hJo b q m)
    have I4 := I3.stay E4 (fun b o e q => kb4 b o q e) (fun a ma o e => kb4 a o (fun q => hJ3 a q ma) e) nd3 hJ0
    refine assign_tgt (s := { s with heap := h4, toks := tk4 }) hh hb4 ok4 I4 cv4 fun h5 tk5 E5 ok5 I5 => ?_
    have E4' : Ext (Js ++ ownA env) σ σ3 s.heap h4 := E3.trans (E4.own fun a m => List.mem_append.mpr (.inl m))
    have hX5 : Lv A X _ h5 := xliveO (xliveO hX E4') E5
    have toJ : ∀ {σ σ' : List Addr} {h h' : Heap}, Ext (ownA env) σ σ' h h' → Ext (Js ++ ownA env) σ σ' h h' := fun E => E.own fun a m => List.mem_append.mpr (.inr m)
    rcases rzq_some e4 with ⟨ρ6, H6, e6, g6⟩ | ⟨_, g6⟩
    · refine hb ρ4 H3 _ _ _ e6 σ3 X { s with heap := h5, toks := tk5 } _ _ ok5 I5 hX5 fun cf σ6 h6 tk6 E6 ok6 I6 F6 => ?_
      cases cf <;> first | exact F6.elim | skip
      exact ⟨xs.length + 1 - (i + 1), by lia, ⟨i + 1, ρ6, H6, σ6, h6, tk6, rfl, by lia, rfl, g6, IT.ext it4 (E5.trans E6) ok4.noData (fun a m => ⟨hJ3 a m, hJo a m⟩), fun a m => (E5.trans E6).notNew (hJ3 a m) (let ⟨o, e, _⟩ := IT.there it4 a m; ⟨o, e⟩), ok6, I6, E4'.trans (toJ (E5.trans E6))⟩⟩
    · refine hr ρ4 H3 _ _ g6 σ3 X { s with heap := h5, toks := tk5 } _ _ ok5 I5 hX5 fun e σ6 h6 h' tk6 E6 I6 L6 th => ?_
      exact loop_thr (s := { s with heap := h', toks := tk6 }) fr L6 th fun h'' th' => k e σ6 h6 h'' tk6 (dropJ (E4'.trans (toJ (E5.trans E6)))) I6 L6 th'

end
end Mine

set_option maxRecDepth 100000
namespace Mine
open PySem PyProof.Rows PySem.Calls

section
variable {M : Model} {A : Around} {E : Value → Shared → Prop} {h : Heap} {g : Array GenState} {d : Drawn} {t : Nat} {os : OsState} {e C D : Addr} {oe : Obj} {bm bmD : List Value}
theorem exc_match {Q : Bool → Shared → Prop} (X : XCls h C bm) (Y : XCls h D bmD) (he : h.get? e = some oe) (hc : oe.cls = .ref C) (hb : (Value.ref C :: bm).contains (.ref D) = true) (hq : Q true ⟨h, g, d, t, os⟩) : wpAny M A (excMatches (.ref e) (.ref D)) Q E ⟨h, g, d, t, os⟩ := by
  obtain ⟨N', nm', q', bs', hdct', sn', sub', ab', col', dd', k0', k1', k2', k3', k5', mN', hD, _, _⟩ := Y.obj
  have hcB : (Value.ref D :: bmD).contains (.type "BaseException") = true := tail_has Y.tail has_bexc
  have f := tc_notTuple
  unfold excMatches
  repeat (first | (with_reducible refine wpAny_loadPart_at he ?_; rw [hc]) | with_reducible refine wpAny_loadPart_at hD ?_ | (with_reducible refine cls_sub Y ?_; rw [hcB]) | (with_reducible refine cls_sub X ?_; rw [hb]) | wp_step)
  exact hq
end

section
variable {h₀ h h' h1 h2 : Heap} {A : Around} {H : HP} {σ σ1 X : List Addr} {e T T2 D : Addr}
theorem InvH.move (x : InvH h₀ H σ X h) (kx : ∀ b o, h₀.get? b = some o → h'.get? b = some o) (E : Ext [] σ σ h h') (s : ∀ a ∈ σ, ∀ o, h.get? a = some o → h'.get? a = some o) : InvH h₀ H σ X h' where
  keep := kx
  low := x.low
  len := x.len
  nodup := x.nodup
  apart := x.apart
  objs := fun i o e => let ⟨c, hc, ok⟩ := x.objs i o e; ⟨c, hc, ok.ext (s c (List.mem_of_getElem? hc)) E NoData.nil⟩
/-- a note, and what is told of the flight -/
theorem noted_ext (L : Lv A X σ h1) (tc : Tch (frs A) [e, T] h1 h2) (hT2 : h1.get? T2 = none ∨ T2 ∈ [e, T]) (sb : ∀ b, b ≠ T2 → h'.get? b = h2.get? b) : Ext [] σ σ (noEx h1 e T) h' ∧ ∀ b o, (noEx h1 e T).get? b = some o → b ∉ frs A → h'.get? b = some o := by
  have ne : ∀ b o, (noEx h1 e T).get? b = some o → h1.get? b = some o ∧ b ∉ [e, T] ∧ b ≠ T2 := fun b o hb => by
    obtain ⟨h3, h4⟩ := hide_some hb
    have h5 : b ∉ [e, T] := fun m => h4 (by
      rcases List.mem_cons.mp m with q | q
      · rw [q]; exact List.mem_cons_of_mem _ List.mem_cons_self
      · rw [List.mem_singleton.mp q]; exact List.mem_cons_self)
    refine ⟨h3, h5, fun q => ?_⟩
    rcases hT2 with r | r
    · rw [q, r] at h3; cases h3
    · exact h5 (q ▸ r)
  have kx : ∀ b o, (noEx h1 e T).get? b = some o → b ∉ frs A → h'.get? b = some o := fun b o hb q => by
    obtain ⟨a1, a2, a3⟩ := ne b o hb
    rw [sb b a3]; exact tc.keep b o a1 q a2
  have sl : ∀ b o, (noEx h1 e T).get? b = some o → ∃ sl, h'.get? b = some { o with slots := sl } := fun b o hb => by
    obtain ⟨a1, a2, a3⟩ := ne b o hb
    by_cases q : b ∈ frs A
    · obtain ⟨sl, e1⟩ := tc.slot b o a1 q; exact ⟨sl, by rw [sb b a3]; exact e1⟩
    · exact ⟨o.slots, kx b o hb q⟩
  refine ⟨⟨fun b o hb _ _ nd => kx b o hb fun m => ?_, fun b o hb _ _ => sl b o hb, fun b o hb => ?_, List.prefix_refl _, fun _ m => .inl m, fun a o m hb => ⟨o, kx a o hb fun q => L.s a q m, Iff.rfl⟩⟩, kx⟩
  · obtain ⟨o', ho', d⟩ := L.f b m
    rw [(ne b o hb).1] at ho'; cases ho'
    exact nd d
  · obtain ⟨s, e1⟩ := sl b o hb
    exact ⟨_, e1, fun ⟨es, n, q⟩ => ⟨es, n, q⟩⟩
end

section
variable {prog : Program} {w : World} {h₀ : Heap} {A : Around} {env : Env} {sc : Scope} {ρ : Loc}
  {C : Cfg} {p : Program} {loose : List Str} {mean : ExcName → Option Value} {mg mb : Str → Option Value}
theorem hdlOf_some {h : ExceptHandler} {y n : Str} {hb : List Stmt} (hd : hdlOf C sc h = some (y, n, hb)) : ∃ q pos b0 bs D, h = .ExceptHandler (some (.Name y q)) (some n) (b0 :: bs) pos ∧ hb = b0 :: bs ∧ isGlob sc y = true ∧ (y, D) ∈ C.exc ∧ sc.names.lookup n = some .local := by
  unfold hdlOf at hd
  split at hd
  split at hd
  case h_2 => cases hd
  split at hd
  case h_2 => cases hd
  split at hd
  case h_2 => cases hd
  rename_i y' hy
  obtain ⟨q, rfl⟩ := nameOf_some hy
  split at hd
  case isFalse => cases hd
  rename_i hg
  cases hd
  obtain ⟨h1, h2⟩ := Bool.and_eq_true_iff.mp hg
  obtain ⟨h2, h3⟩ := Bool.and_eq_true_iff.mp h2
  obtain ⟨h5, h4⟩ := Bool.and_eq_true_iff.mp h3
  unfold isLocN at h5
  obtain ⟨D, hD⟩ := Option.isSome_iff_exists.mp h2
  cases hb with
  | nil => cases h4
  | cons b0 bs => exact ⟨q, _, b0, bs, D, rfl, rfl, h1, mem_of_lookup hD, of_decide_eq_true (Bool.and_eq_true_iff.mp h5).1⟩

theorem sim_try {b : List Stmt} {h : ExceptHandler} {y n : Str} {hb : List Stmt} {pos : Pos} {H : HP} {r : RS} {x : R Addr} {fh : Loc → HP → RS} (G : Glb C p loose mean mg mb h₀) (fr : FrE h₀ A env) (hd : hdlOf C sc h = some (y, n, hb))
    (hbody : SimS prog w h₀ A env sc (execs b env) ρ H r) (hx : RzE prog w h₀ A env sc (execs b env) ρ H x) (hh : ∀ e ρ H, SimS prog w h₀ (A.mark (some (.ref e))) env sc (execs hb env) ρ H (fh ρ H)) :
    SimS prog w h₀ A env sc (exec (.Try b [h] [] [] pos) env) ρ H (tryR C y n r x fh ρ) := by
  intro fl ρ' H' e' σ X s Q E ok I hX k
  cases r with
  | some z =>
    have e' : some z = some (fl, ρ', H') := e'
    cases e'
    refine wpAny_Try_except (hbody _ _ _ rfl σ X s _ _ ok I hX fun cf σ1 h1 tk1 E1 ok1 I1 F1 => ?_)
    cases cf with
    | next => exact wpAny_execs_nil (k _ σ1 h1 tk1 E1 ok1 I1 F1)
    | ret v => exact k _ σ1 h1 tk1 E1 ok1 I1 F1
    | brk => cases fl <;> exact F1.elim
    | cont => cases fl <;> exact F1.elim
  | none =>
    obtain ⟨D, H1, e1, g1⟩ := bnd_some e'
    split at g1
    case isFalse => cases g1
    rename_i hsub
    unfold delS at g1
    split at g1
    case h_2 => cases g1
    rename_i fl0 ρ0 H0 eh
    cases g1
    obtain ⟨hany, hsub⟩ := Bool.and_eq_true_iff.mp hsub
    obtain ⟨⟨z, D0⟩, hz, hzD⟩ := List.any_eq_true.mp hany
    have hzD := beq_iff_eq.mp hzD
    simp only at hzD
    subst hzD
    obtain ⟨q, hpos, b0, bs, Y, rfl, rfl, hg, hY, hln⟩ := hdlOf_some hd
    obtain ⟨_, bm, XD, hsubs, _⟩ := G.exc z D0 hz
    obtain ⟨hmgY, bmY, XY, _, _⟩ := G.exc y Y hY
    obtain ⟨outer, fa⟩ := fr.fr
    refine wpAny_Try_except (hx D0 H1 e1 σ X s _ _ ok I hX fun ex T σ1 h1 tk1 E1 I1 L1 he hT xc => ?_)
    refine note_next (s := { s with heap := h1, toks := tk1 }) fa fr.at' L1.f xc fun h2 T2 x2 hT2 tc => ?_
    refine fly_end (s := { s with heap := h2, toks := tk1 }) x2 fun h3 x3 sb3 => ?_
    have hX' : ∀ a ∈ X, a ∉ [T, ex] := fun a m r => by
      obtain ⟨o, ho⟩ := hX.x a m
      rcases List.mem_cons.mp r with q | q
      · rw [q, hT] at ho; cases ho
      · rw [List.mem_singleton.mp q, he] at ho; cases ho
    have dead : ∀ a ∈ [T, ex], s.heap.get? a = none := fun a m => by
      rcases List.mem_cons.mp m with q | q
      · rw [q]; exact hT
      · rw [List.mem_singleton.mp q]; exact he
    have ndd : ∀ hh : Heap, NoData hh (T :: ex :: X) [T, ex] := fun hh a m hx => absurd (List.mem_append_left X m) hx
    have ok0 : EnvOk h₀ env sc ρ σ1 (T :: ex :: X) h1 := ((ok.aside he).aside hT).ext E1
    have okn : EnvOk h₀ env sc ρ σ1 (T :: ex :: X) (noEx h1 ex T) := ok0.but (dead := [T, ex]) (fun a m r => I1.apart a r (List.mem_append_left X m)) (fun b o q hb => noEx_keep q hb) (ndd _) fun b mb m => by
      obtain ⟨o, ho⟩ := ok.ownThere b mb
      rw [dead b m] at ho; cases ho
    have In : InvH h₀ H1 σ1 (T :: ex :: X) (noEx h1 ex T) := I1.but (dead := [T, ex]) (fun b o q hb => noEx_keep q hb) (ndd _) (fun a m => by
      cases q : h₀.get? a with
      | none => rfl
      | some o => have := I.keep _ _ q; rw [dead a m] at this; cases this) (fun a m r => I1.apart a r (List.mem_append_left X m))
    have En : Ext [] σ σ1 s.heap (noEx h1 ex T) := E1.but dead fun b o q hb => noEx_keep q hb
    have at_ : ∀ h4 : Heap, (∀ b, b ≠ T2 → h4.get? b = h2.get? b) → Ext [] σ σ1 s.heap h4 ∧ EnvOk h₀ env sc ρ σ1 X h4 ∧ InvH h₀ H1 σ1 X h4 ∧ Lv A X σ1 h4 := fun h4 sb => by
      obtain ⟨x14, kx⟩ := noted_ext (σ := σ1) L1 tc hT2 sb
      have hless : ∀ a ∈ X, a ∈ T :: ex :: X := fun a m => List.mem_cons_of_mem _ (List.mem_cons_of_mem _ m)
      have Iv : InvH h₀ H1 σ1 (T :: ex :: X) h4 := In.move (fun b o hb => kx b o (In.keep b o hb) fun m => by rw [fr.low b m] at hb; cases hb) x14 (fun a m o ho => kx a o ho fun mf => by
        exact L1.s a mf m)
      exact ⟨En.trans x14, (okn.ext x14).less hless, Iv.less hless, hX.ext (En.trans x14)⟩
    have sb3' : ∀ b, b ≠ T2 → h3.get? b = h2.get? b := fun b q => sb3.2 b q
    obtain ⟨E3, ok3, I3, L3⟩ := at_ h3 sb3'
    have x3' := x3
    obtain ⟨oe, oT, vs, ts, a0, hoe, hoc, hod, _⟩ := x3'
    refine wpAny_handleBy_cons (codeAny_handlers_test ?_) (by intro q; cases q)
    refine glob_load (s := { s with heap := h3, toks := tk1 }) G ok3 I3 hg hmgY ?_
    refine exc_match (XD.keeps I3.keep) (XY.keeps I3.keep) hoe hoc ?_ ?_
    · rw [hsubs y Y hY]; exact hsub
    refine codeAny_handlers_suite_as ?_
    refine fly_end (s := { s with heap := h3, toks := tk1 }) x3 fun h4 x4 sb4 => ?_
    have sb4' : ∀ b, b ≠ T2 → h4.get? b = h2.get? b := fun b q => (sb4.2 b q).trans (sb3.2 b q)
    obtain ⟨E4, ok4, I4, L4⟩ := at_ h4 sb4'
    obtain ⟨oe4, oT4, vs4, ts4, a04, hoe4, hoc4, hod4, _⟩ := x4
    have cv : Cv h4 σ1 X (.obj D0) (.ref ex) := .obj hoe4 ⟨hoc4, _, hod4⟩ (fun m => I1.apart ex m (List.mem_cons_of_mem _ List.mem_cons_self)) (fun m => hX' ex m (List.mem_cons_of_mem _ List.mem_cons_self))
    refine store_sound (s := { s with heap := h4, toks := tk1 }) ok4 I4 (x := n) (by unfold isSto; rw [hln]) cv fun a h5 tk5 ma ha E5 ok5 I5 => ?_
    have E05 : Ext (ownA env) σ σ1 s.heap h5 := (E4.own fun _ m => nomatch m).trans (E5.own fun b m => List.mem_singleton.mp m ▸ ma)
    have L5 : Lv (A.mark (some (.ref ex))) X _ h5 := ⟨(L4.ext E5).x, (L4.ext E5).f, (L4.ext E5).s⟩
    refine hh ex (upd ρ n (.obj D0)) H1 _ _ _ eh σ1 X { s with heap := h5, toks := tk5 } _ _ ok5 I5 L5 fun cf σ6 h6 tk6 E6 ok6 I6 F6 => ?_
    obtain ⟨m6, ns6, _⟩ := ok6.ns
    refine wpAny_nameGoes (s := { s with heap := h6, toks := tk6 }) (ok6.loc n hln) ns6 (by rw [ok6.kind]; rfl) fun h7 m7 ns7 sb7 => ?_
    have nd6 : NoData h6 X [env.locals] := .ns ns6
    have E7 : Ext [env.locals] σ6 σ6 h6 h7 := ⟨fun b o hb _ q _ => (sb7.2 b fun r => q (List.mem_singleton.mpr r)).trans hb, fun b o hb _ q => ⟨o.slots, (sb7.2 b fun r => q (List.mem_singleton.mpr r)).trans hb⟩, fun b o hb => by
      by_cases q : b = env.locals
      · subst q; obtain ⟨o7, es, ep, ho7, hd7, _⟩ := ns7; exact ⟨o7, ho7, fun _ => ⟨es, ep, hd7⟩⟩
      · exact ⟨o, (sb7.2 b q).trans hb, id⟩, List.prefix_refl _, fun _ m => .inl m, fun a o ma hb => ⟨o, (sb7.2 a fun r => (ok6.own env.locals List.mem_cons_self).1 (r ▸ ma)).trans hb, Iff.rfl⟩⟩
    have I7 : InvH h₀ H' σ6 X h7 := I6.stay E7 (fun b o hb q => (sb7.2 b fun r => q (List.mem_singleton.mpr r)).trans hb) (fun a ma o ho => (sb7.2 a fun r => (ok6.own env.locals List.mem_cons_self).1 (r ▸ ma)).trans ho) nd6 (fun a m => List.mem_singleton.mp m ▸ (ok6.own env.locals List.mem_cons_self).2)
    have cellne : ∀ c ov, h6.IsCell c ov → c ≠ env.locals := fun c ov ⟨o, ho, hdd⟩ q => by
      obtain ⟨o', es, ep, ho', hd', _⟩ := ns6
      rw [q, ho'] at ho; cases ho; rw [hdd] at hd'; cases hd'
    have ok7 : EnvOk h₀ env sc locNil σ6 X h7 := { ok6 with
      ns := ⟨m7, ns7, fun _ _ _ _ r => nomatch r⟩
      cells := fun x kx => by
        obtain ⟨c, ov, hl, hi, _⟩ := ok6.cells x kx
        exact ⟨c, ov, hl, hi.sameBut sb7 (cellne c ov hi), fun _ r => nomatch r⟩
      there := fun a c m => by
        obtain ⟨ov, hi⟩ := ok6.there a c m
        exact ⟨ov, hi.sameBut sb7 (cellne c ov hi)⟩ }
    refine k cf σ6 h7 _ ((E05.trans E6).trans (E7.own fun b m => by rw [List.mem_singleton.mp m]; exact List.mem_cons_self)) ok7 I7 ?_
    cases fl <;> cases cf <;> first | exact F6.elim | trivial | exact Cv.ext E7 nd6 F6
end
end Mine

namespace Mine
open PySem PyProof.Rows PySem.Calls

section
variable {prog : Program} {w : World} {h₀ : Heap} {A : Around} {env : Env} {sc : Scope} {ρ : Loc}
variable {C : Cfg} {p : Program} {loose : List Str} {mean : ExcName → Option Value} {mg mb : Str → Option Value}

theorem swaps_comp {elt : Expr} {gens : List Comprehension} {csc : Scope} {cpos : Pos} {x : Str} {q : Pos} {n : Nat} : ∃ b, swapsWith (.ListComp elt gens csc cpos) (some (.Name x q)) n env = pure b := ⟨_, rfl⟩

theorem kind_comp {e : Expr} (h : isCompD e = true) : (∃ elt gens csc cpos, e = .ListComp elt gens csc cpos) ∨ (kindE e == 9 || kindE e == 10) = true := by
  cases e <;> first | exact Bool.noConfusion h | exact .inl ⟨_, _, _, _, rfl⟩ | exact .inr rfl
theorem eval_nocomp {Φ : Phi} {d : Nat} {fm : Fm} {e : Expr} {H : HP} (h : (kindE e == 9 || kindE e == 10) = true) : evalE C Φ d fm e ρ H = none ∧ evalM C Φ (d + 1) fm e ρ H = none := by
  cases e <;> first | exact Bool.noConfusion h | (cases d <;> exact ⟨rfl, rfl⟩)
theorem begins_for {Φ : Phi} {d : Nat} {fm : Fm} {t iter : Expr} (G : Glb C p loose mean mg mb h₀) (hi : ∀ e H, Sim prog w h₀ A env fm.sc ρ (eval e env) H (evalE C Φ d fm e ρ H) false) :
    Begins prog w h₀ A env fm.sc ρ t iter (forIt (enumOf fm.sc t iter) iter fun e H => evalE C Φ d fm e ρ H) := by
  cases h : enumOf fm.sc t iter with
  | none => exact begins_plain fun H => hi iter H
  | some x => exact begins_enum (f := fun e H => evalE C Φ d fm e ρ H) G h (fun H => hi x H) fun e p H => by cases d <;> rfl
theorem sim_asgC {Φ : Phi} (G : Glb C p loose mean mg mb h₀) (hu : A.units + 100 < cLine) (hQ : PhiQ prog w h₀ mg A Φ) {d : Nat} {fm : Fm} {x : Str} {q : Pos} {e : Expr} {pos : Pos} {H : HP} {r : R AV}
    (hB : Bk prog w h₀ mg A Φ fm) (hx : isSto fm.sc x = true) (hc : isCompD e = true) (hr : r = evalM C Φ d fm e ρ H ∨ r = evalE C Φ d fm e ρ H) : SimS prog w h₀ A env fm.sc (exec (.Assign [.Name x q] e pos) env) ρ H (asgN x r ρ) := by
  cases d with
  | zero => rcases hr with rfl | rfl <;> exact SimS.none
  | succ d =>
    rcases kind_comp hc with ⟨elt, gens, csc, cpos, rfl⟩ | hk
    · obtain ⟨b, hb⟩ := swaps_comp (env := env) (elt := elt) (gens := gens) (csc := csc) (cpos := cpos) (x := x) (q := q) (n := pos.line)
      cases b with
      | false =>
        refine sim_asgN hb hx ?_
        rcases hr with rfl | rfl
        · exact evalM_sim G hu hQ (d + 1) fm _ env ρ H hB
        · exact eval_sim' G hu hQ (d + 1) fm _ env ρ H hB
      | true =>
        match gens, hb with
        | [], _ => rcases hr with rfl | rfl <;> exact SimS.none
        | _ :: _ :: _, _ => rcases hr with rfl | rfl <;> exact SimS.none
        | [⟨tg, iter, ifs, isa⟩], hb =>
          cases tg with
          | Name y py =>
            by_cases hcc : (!fm.hnd && compHd fm.sc csc y isa iter) = true
            case neg =>
              have hif : r = (if (!fm.hnd && compHd fm.sc csc y isa iter) = true then _ else none) ∨ r = (if (!fm.hnd && compHd fm.sc csc y isa iter) = true then _ else none) := hr
              rw [if_neg hcc, if_neg hcc] at hif
              rcases hif with rfl | rfl <;> exact SimS.none
            have hif : r = (if (!fm.hnd && compHd fm.sc csc y isa iter) = true then madeL _ else none) ∨ r = (if (!fm.hnd && compHd fm.sc csc y isa iter) = true then frozenL _ else none) := hr
            rw [if_pos hcc, if_pos hcc] at hif
            obtain ⟨hmm, hcc⟩ := Bool.and_eq_true_iff.mp hcc
            have hh := (hB (by simpa using hmm)).2
            obtain ⟨rfl, hcc, hn⟩ := compHd_of hcc
            have ht : ∀ env' ρ H, SimB prog w h₀ A env' csc ρ (tstT ifs env' true) H (boolB .And (ifs.map fun e H => evalB C Φ d { fm with sc := csc } e ρ H) H) := fun env' ρ H => sim_tests (f := fun e H => evalB C Φ d { fm with sc := csc } e ρ H) (fun e _ H => (eval_sim G hu hQ d).2 { fm with sc := csc } e env' ρ H hB)
            have hi : ∀ H, Sim prog w h₀ A env fm.sc ρ (eval iter env) H (evalE C Φ d fm iter ρ H) false := fun H => eval_sim' G hu hQ d fm iter env ρ H hB
            rcases hif with rfl | rfl
            · exact sim_use (.inr rfl) hb hx hh hcc (hn env) hi ht (fun env' ρ H => evalM_sim G hu hQ d { fm with sc := csc } elt env' ρ H hB)
            · exact sim_use (.inl rfl) hb hx hh hcc (hn env) hi ht (fun env' ρ H => eval_sim' G hu hQ d { fm with sc := csc } elt env' ρ H hB)
          | _ => rcases hr with rfl | rfl <;> exact SimS.none
    · have : r = none := hr.elim (fun q => q.trans (eval_nocomp (d := d) hk).2) (fun q => q.trans (eval_nocomp (d := d + 1) hk).1)
      subst this; exact SimS.none

/-- what a frame's run may lean on -/
noncomputable def BkX (prog : Program) (w : World) (h₀ : Heap) (mg : Str → Option Value) (A : Around) (Φ : Phi) (fm : Fm) (env : Env) : Prop := fm.hnd = false → PhiOk prog w h₀ mg A Φ ∧ PhiXOk prog w h₀ mg A Φ ∧ A.handled = none ∧ FrE h₀ A env
theorem BkX.bk {Φ : Phi} {fm : Fm} (b : BkX prog w h₀ mg A Φ fm env) : Bk prog w h₀ mg A Φ fm := fun h => let ⟨a, _, c, _⟩ := b h; ⟨a, c⟩
theorem isCallD_some {fm : Fm} {e : Expr} {g : Str} {args : List Expr} (h : isCallD C fm e = some (g, args)) : ∃ gp pos d, e = .Call (.Name g gp) args [] pos ∧ isGlob fm.sc g = true ∧ fm.hnd = false ∧ fnNames C g = some d := by
  obtain ⟨z, hz, h⟩ := Option.bind_eq_some_iff.mp h
  split at h
  case isFalse => cases h
  rename_i hg
  obtain ⟨gp, pos, hc⟩ := callOf_some hz
  cases h
  have h1 := Bool.and_eq_true_iff.mp hg
  have h2 := Bool.and_eq_true_iff.mp h1.2
  obtain ⟨d, hd⟩ := Option.isSome_iff_exists.mp h2.2
  exact ⟨gp, pos, d, hc, h1.1, by simpa using h2.1, hd⟩
theorem rzE_sound {Φ : Phi} (G : Glb C p loose mean mg mb h₀) (hu : A.units + 100 < cLine) (hQ : PhiQ prog w h₀ mg A Φ) {d : Nat} {fm : Fm} {e : Expr} {H : HP} (hB : BkX prog w h₀ mg A Φ fm env) : RzE prog w h₀ A env fm.sc (eval e env) ρ H (rzE C Φ d fm e ρ H) := by
  unfold rzE
  split
  · rename_i g args hc
    obtain ⟨gp, pos, df, rfl, hg, hm, hd⟩ := isCallD_some hc
    exact rz_callE (f := fun e H => evalE C Φ d fm e ρ H) G (hB hm).2.1 hg hd (fun e _ H => eval_sim' G hu hQ d fm e env ρ H hB.bk) (fun e q H => evalE_star)
  · exact RzE.none
theorem rz_expr {Φ : Phi} (G : Glb C p loose mean mg mb h₀) (hu : A.units + 100 < cLine) (hQ : PhiQ prog w h₀ mg A Φ) {d : Nat} {fm : Fm} {e : Expr} {pos : Pos} {H : HP} (hB : BkX prog w h₀ mg A Φ fm env) : Rz prog w h₀ A env fm.sc (exec (.Expr e pos) env) ρ H (rzE C Φ d fm e ρ H) := by
  intro D H' e' σ X s Q E ok I hX k
  have he : ∃ gp pp g args, e = .Call (.Name g gp) args [] pp := by
    replace e' : rzE C Φ d fm e ρ H = _ := e'
    unfold rzE at e'
    cases hc : isCallD C fm e with
    | none => rw [hc] at e'; cases e'
    | some z =>
      obtain ⟨gp, pp, _, rfl, _⟩ := isCallD_some hc
      exact ⟨gp, pp, z.1, z.2, rfl⟩
  obtain ⟨gp, pp, g, args, rfl⟩ := he
  exact wpAny_Expr ((rzE_sound G hu hQ hB).rz D H' e' σ X s _ E ok I hX k) (interactive_false ok) rfl
theorem rzT_sound {Φ : Phi} (G : Glb C p loose mean mg mb h₀) (hu : A.units + 100 < cLine) (hQ : PhiQ prog w h₀ mg A Φ) {d : Nat} {fm : Fm} {b : List Stmt} {H : HP} (hB : BkX prog w h₀ mg A Φ fm env) : RzE prog w h₀ A env fm.sc (execs b env) ρ H (rzT C Φ d fm b ρ H) := by
  unfold rzT
  cases b with
  | nil => exact RzE.none
  | cons st r =>
  cases r with
  | cons _ _ => exact RzE.none
  | nil =>
  intro D H' e' σ X s Q E ok I hX k
  refine wpAny_execs_cons ?_
  cases st with
  | Expr e pos =>
    have he : ∃ gp pp g args, e = .Call (.Name g gp) args [] pp := by
      replace e' : rzE C Φ d fm e ρ H = _ := e'
      unfold rzE at e'
      cases hc : isCallD C fm e with
      | none => rw [hc] at e'; cases e'
      | some z =>
        obtain ⟨gp, pp, _, rfl, _⟩ := isCallD_some hc
        exact ⟨gp, pp, z.1, z.2, rfl⟩
    obtain ⟨gp, pp, g, args, rfl⟩ := he
    exact wpAny_Expr (rzE_sound G hu hQ hB D H' e' σ X s _ E ok I hX k) (interactive_false ok) rfl
  | Return e pos =>
    cases e with
    | some e => exact wpAny_Return_some (rzE_sound G hu hQ hB D H' e' σ X s _ E ok I hX k)
    | none => cases e'
  | Assign ts e pos =>
    match ts with
    | [] => cases e'
    | _ :: _ :: _ => cases e'
    | [t] =>
      replace e' : (match nameOf t with | some _ => if isCompD e then none else rzE C Φ d fm e ρ H | none => none) = some (D, H') := e'
      cases ht : nameOf t with
      | none => rw [ht] at e'; cases e'
      | some x =>
        rw [ht] at e'
        obtain ⟨q, rfl⟩ := nameOf_some ht
        cases hc : isCompD e with
        | true => rw [hc] at e'; cases e'
        | false =>
          rw [hc] at e'
          exact wpAny_Assign_Name (rzE_sound G hu hQ hB D H' e' σ X s _ E ok I hX k) (swaps_not hc)
  | _ => cases e'

theorem exec_sim {Φ : Phi} (G : Glb C p loose mean mg mb h₀) : ∀ (d : Nat) (A : Around), A.units + 100 < cLine → PhiQS prog w h₀ mg A Φ →
    ((∀ (fm : Fm) (st : Stmt) (env : Env) (ρ : Loc) (H : HP), BkX prog w h₀ mg A Φ fm env → SimS prog w h₀ A env fm.sc (exec st env) ρ H (execS C Φ d fm st ρ H)) ∧
    (∀ (fm : Fm) (sts : List Stmt) (env : Env) (ρ : Loc) (H : HP), BkX prog w h₀ mg A Φ fm env → SimS prog w h₀ A env fm.sc (execs sts env) ρ H (execSs C Φ d fm sts ρ H))) ∧
    ((∀ (fm : Fm) (st : Stmt) (env : Env) (ρ : Loc) (H : HP), BkX prog w h₀ mg A Φ fm env → Rz prog w h₀ A env fm.sc (exec st env) ρ H (rzS C Φ d fm st ρ H)) ∧
    (∀ (fm : Fm) (sts : List Stmt) (env : Env) (ρ : Loc) (H : HP), BkX prog w h₀ mg A Φ fm env → Rz prog w h₀ A env fm.sc (execs sts env) ρ H (rzSs C Φ d fm sts ρ H)))
  | 0, _, _, _ => ⟨⟨fun _ _ _ _ _ _ => SimS.none, fun _ _ _ _ _ _ => SimS.none⟩, ⟨fun _ _ _ _ _ _ => Rz.none, fun _ _ _ _ _ _ => Rz.none⟩⟩
  | d + 1, A, hu, hS => by
    obtain ⟨⟨ih, ihs⟩, ⟨rh, rhs⟩⟩ := exec_sim G d A hu hS
    have hQ := hS.1
    have ihe : ∀ fm e env ρ H, BkX prog w h₀ mg A Φ fm env → Sim prog w h₀ A env fm.sc ρ (eval e env) H (evalE C Φ d fm e ρ H) false := fun fm e env ρ H hB => eval_sim' G hu hQ d fm e env ρ H hB.bk
    have ihb : ∀ fm e env ρ H, BkX prog w h₀ mg A Φ fm env → SimB prog w h₀ A env fm.sc ρ (isTrue e env (eval e env)) H (evalB C Φ d fm e ρ H) := fun fm e env ρ H hB => (eval_sim G hu hQ d).2 fm e env ρ H hB.bk
    have ihm : ∀ fm e env ρ H, BkX prog w h₀ mg A Φ fm env → Sim prog w h₀ A env fm.sc ρ (eval e env) H (evalM C Φ d fm e ρ H) false := fun fm e env ρ H hB => evalM_sim G hu hQ d fm e env ρ H hB.bk
    refine ⟨⟨fun fm st env ρ H hB => ?_, fun fm sts env ρ H hB => ?_⟩, ⟨fun fm st env ρ H hB => ?_, fun fm sts env ρ H hB => ?_⟩⟩
    · cases st with
      | Pass pos => exact sim_pass
      | Expr e pos =>
        show SimS prog w h₀ A env fm.sc _ ρ H (if isCompD e then none else _)
        split
        · exact SimS.none
        · rename_i hc
          exact sim_expr (by simpa using hc) (ihe fm e env ρ H hB)
      | Return e pos =>
        cases e with
        | none => exact sim_ret0
        | some e =>
          show SimS prog w h₀ A env fm.sc _ ρ H (retS (if _ then _ else _) ρ)
          split
          · exact sim_ret (ihm fm e env ρ H hB)
          · exact sim_ret (ihe fm e env ρ H hB)
      | Assign ts e pos =>
        match ts with
        | [] => exact SimS.none
        | _ :: _ :: _ => exact SimS.none
        | [t] =>
          cases t with
          | Name x q =>
            show SimS prog w h₀ A env fm.sc _ ρ H (if isSto fm.sc x then _ else none)
            split
            case isFalse => exact SimS.none
            rename_i hx
            cases hc : isCompD e with
            | false =>
              split
              · exact sim_asgN (swaps_not hc) hx (ihm fm e env ρ H hB)
              · exact sim_asgN (swaps_not hc) hx (ihe fm e env ρ H hB)
            | true =>
              split
              · exact sim_asgC G hu hQ (d := d) hB.bk hx hc (.inl rfl)
              · exact sim_asgC G hu hQ (d := d) hB.bk hx hc (.inr rfl)
          | Tuple es n q =>
            show SimS prog w h₀ A env fm.sc _ ρ H (if fm.hnd || (isTupleD e || isCompD e) then none else _)
            split
            · exact SimS.none
            · rename_i hc
              simp only [Bool.or_eq_true, not_or, Bool.not_eq_true] at hc
              exact sim_asgT (hB hc.1).2.2.1 (by simp only [Bool.or_eq_false_iff]; exact hc.2) (ihe fm e env ρ H hB)
          | Subscript o i q =>
            show SimS prog w h₀ A env fm.sc _ ρ H (if isCompD e then none else _)
            split
            · exact SimS.none
            · rename_i hc
              exact sim_asgI (by simpa using hc) (fun H => ihe fm o env ρ H hB) (fun H => ihe fm i env ρ H hB) (fun H => ihe fm e env ρ H hB)
          | _ => exact SimS.none
      | If t b o pos => exact sim_if (ihb fm t env ρ H hB) (fun H => ihs fm b env ρ H hB) (fun H => ihs fm o env ρ H hB)
      | For t iter b orelse pos =>
        cases orelse with
        | cons _ _ => exact SimS.none
        | nil =>
          show SimS prog w h₀ A env fm.sc _ ρ H (if (!fm.hnd && notSet iter) = true then _ else none)
          split
          · rename_i hn
            obtain ⟨hm, hn⟩ := Bool.and_eq_true_iff.mp hn
            exact sim_for (hB (by simpa using hm)).2.2.1 (folded_id hn) (begins_for G (fun e H => ihe fm e env ρ H hB)) (fun ρ H => ihs fm b env ρ H hB)
          · exact SimS.none
      | Try b hs orelse fin pos =>
        cases fin with
        | cons _ _ => exact SimS.none
        | nil =>
          cases orelse with
          | cons _ _ => exact SimS.none
          | nil =>
            match hs with
            | [] => exact SimS.none
            | _ :: _ :: _ => exact SimS.none
            | [h] =>
              show SimS prog w h₀ A env fm.sc _ ρ H (tryA C fm.hnd (hdlOf C fm.sc h) _ _ _ ρ)
              cases hd : hdlOf C fm.sc h with
              | none => exact SimS.none
              | some z =>
                cases hm : fm.hnd with
                | true => exact SimS.none
                | false => exact sim_try G (hB hm).2.2.2 hd (ihs fm b env ρ H hB) (rzT_sound G hu hQ hB) fun e ρ H => (exec_sim G d (A.mark (some (.ref e))) hu (hS.mark _)).1.2 { fm with hnd := true } z.2.2 env ρ H (fun q => nomatch q)
      | _ => exact SimS.none
    · cases sts with
      | nil =>
        intro fl ρ' H' e' σ X s Q E ok I hX k
        cases e'
        exact wpAny_execs_nil (k _ σ s.heap s.toks (Ext.refl _ _ _) ok I trivial)
      | cons st rest => exact sim_cons (ih fm st env ρ H hB) (fun ρ H => ihs fm rest env ρ H hB)
    · cases st with
      | Raise exc cause pos => exact rz_raise G fun h => (hB h).2.2.1
      | Expr e pos => exact rz_expr G hu hQ hB
      | If t b o pos => exact rz_if (ihb fm t env ρ H hB) (fun H => rhs fm b env ρ H hB) (fun H => rhs fm o env ρ H hB)
      | For t iter b orelse pos =>
        cases orelse with
        | cons _ _ => exact Rz.none
        | nil =>
          show Rz prog w h₀ A env fm.sc _ ρ H (if (!fm.hnd && notSet iter) = true then _ else none)
          split
          · rename_i hn
            obtain ⟨hm, hn⟩ := Bool.and_eq_true_iff.mp hn
            have hB' := hB (by simpa using hm)
            exact rz_for hB'.2.2.2 hB'.2.2.1 (folded_id hn) (begins_for G (fun e H => ihe fm e env ρ H hB)) (fun ρ H => ihs fm b env ρ H hB) (fun ρ H => rhs fm b env ρ H hB)
          · exact Rz.none
      | _ => exact Rz.none
    · cases sts with
      | nil => exact Rz.none
      | cons st rest => exact rz_cons (ih fm st env ρ H hB) (rh fm st env ρ H hB) (fun ρ H => rhs fm rest env ρ H hB)
end
end Mine

namespace Mine
open PySem PyProof.Rows PySem.Calls

/-! ### arguments are bound -/
theorem lookup_zip : ∀ {xs : List Str} {vs : List Value}, xs.Nodup → vs.length = xs.length → xs.filterMap (fun n => ((xs.zip vs).lookup n).map (n, ·)) = xs.zip vs := by
  have key : ∀ (xs : List Str) (vs : List Value) (pre : List (Str × Value)), (∀ x ∈ xs, pre.lookup x = none) → xs.Nodup → vs.length = xs.length → xs.filterMap (fun n => ((pre ++ xs.zip vs).lookup n).map (n, ·)) = xs.zip vs := by
    intro xs
    induction xs with
    | nil => intro vs pre _ _ _; simp
    | cons x xs ih =>
      intro vs pre hp hn hl
      cases vs with
      | nil => simp at hl
      | cons v vs =>
        simp only [List.zip_cons_cons, List.filterMap_cons]
        have h1 : (pre ++ (x, v) :: xs.zip vs).lookup x = some v := by
          rw [List.lookup_append, hp x List.mem_cons_self]; simp [List.lookup_cons]
        rw [h1]
        simp only [Option.map_some]
        have := ih vs (pre ++ [(x, v)]) (fun y m => by
          rw [List.lookup_append, hp y (List.mem_cons_of_mem _ m)]
          have : (y == x) = false := by
            have hne : y ≠ x := fun q => (List.nodup_cons.mp hn).1 (q ▸ m)
            simpa using hne
          simp [List.lookup_cons, this]) (List.nodup_cons.mp hn).2 (by simpa using hl)
        rw [List.append_assoc] at this
        simpa using this
  intro xs vs hn hl
  simpa using key xs vs [] (fun _ _ => rfl) hn hl

theorem lookup_zip_some : ∀ {xs : List Str} {vs : List Value}, vs.length = xs.length → ∀ x ∈ xs, ((xs.zip vs).lookup x).isSome = true
  | [], _, _, x, m => nomatch m
  | y :: xs, [], h, x, m => by simp at h
  | y :: xs, v :: vs, h, x, m => by
    rw [List.zip_cons_cons, List.lookup_cons]
    split
    · rfl
    · rename_i hy
      rcases List.mem_cons.mp m with rfl | m
      · simp at hy
      · exact lookup_zip_some (by simpa using h) x m

theorem bind_plain {name : Str} {params : Arguments} {body : List Stmt} {scope : Scope} {pm code doc : Value} {xs : List Str} {vals : List Value} (hp : plainArgs params = some xs) (hn : xs.Nodup) (hl : vals.length = xs.length) :
    bindArgs (docDef name params body scope pm code doc) ⟨vals, []⟩ = pure (xs.zip vals) := by
  obtain ⟨po, ar, va, ko, kd, kw, df⟩ := params
  unfold plainArgs at hp
  split at hp
  case isFalse => cases hp
  rename_i q
  simp only [noArgs, Bool.and_eq_true, List.isEmpty_iff, Option.isNone_iff_eq_none] at q
  obtain ⟨rfl, rfl, rfl, rfl, rfl, rfl⟩ := q
  cases hp
  have hmiss : ((ar.map (·.arg)).filter fun n => ((((ar.map (·.arg)).zip vals).lookup n).isNone)) = [] := by
    rw [List.filter_eq_nil_iff]
    intro x m
    have := lookup_zip_some hl x m
    simp [Option.isSome_iff_ne_none] at this ⊢
    exact this
  have hbind := lookup_zip hn hl
  have h1 : ¬ ((decide (vals.length > (ar.map Arg.arg).length) && true) = true) := by rw [hl]; simp
  refine (if_neg h1).trans ?_
  rw [show ∀ k, List.drop k ((none : Option (Array Value)).getD #[]).toList = [] from fun k => List.drop_nil]
  have e1 : List.take ((ar.map Arg.arg).length - 0) (ar.map Arg.arg) = ar.map Arg.arg := List.take_length
  have h2 : ¬ ((!((List.take ((ar.map Arg.arg).length - 0) (ar.map Arg.arg)).filter fun n => ((((ar.map Arg.arg).zip vals).lookup n).isNone)).isEmpty) = true) := by rw [e1, hmiss]; simp
  have e2 : ((ar.map Arg.arg) ++ []).filterMap (fun n => (((ar.map Arg.arg).zip vals).lookup n).map (n, ·)) = (ar.map Arg.arg).zip vals := by rw [List.append_nil]; exact hbind
  refine (if_neg h2).trans ?_
  rw [show ∀ l : List Str, l.zip ([] : List Value) = [] from fun l => List.zip_nil_right]
  exact congrArg (pure : _ → Sem (List (Str × Value))) e2

/-! ### a call's frame -/
theorem cellsFrom_nodup : ∀ {names : List (Str × NameKind)} {lo : Nat} {acc : List (Str × Addr)}, (names.map (·.1)).Nodup → (acc.map (·.1)).Nodup → (∀ x ∈ acc.map (·.1), x ∉ names.map (·.1)) → ((cellsFrom lo names acc).map (·.1)).Nodup
  | [], lo, acc, _, h, _ => h
  | (x, k) :: r, lo, acc, hn, ha, hd => by
    obtain ⟨h1, h2⟩ := List.nodup_cons.mp hn
    unfold cellsFrom
    split
    · refine cellsFrom_nodup h2 (List.nodup_cons.mpr ⟨fun m => hd x m (by simp), ha⟩) fun y m => ?_
      rcases List.mem_cons.mp m with rfl | m
      · exact h1
      · exact fun q => hd y m (List.mem_cons_of_mem _ q)
    · exact cellsFrom_nodup h2 ha fun y m q => hd y m (List.mem_cons_of_mem _ q)
theorem cellsFrom_some : ∀ {names : List (Str × NameKind)} {lo : Nat} {acc : List (Str × Addr)} {n : Str}, ((n, NameKind.cell) ∈ names ∨ (acc.lookup n).isSome = true) → ((cellsFrom lo names acc).lookup n).isSome = true
  | [], lo, acc, n, h => h.elim (fun m => nomatch m) id
  | (x, k) :: r, lo, acc, n, h => by
    unfold cellsFrom
    split
    · refine cellsFrom_some ?_
      rcases h with m | m
      · rcases List.mem_cons.mp m with q | q
        · cases q; exact .inr (by simp)
        · exact .inl q
      · right
        rw [List.lookup_cons]
        split
        · rfl
        · exact m
    · rename_i hk
      refine cellsFrom_some (h.imp_left fun m => ?_)
      rcases List.mem_cons.mp m with q | q
      · cases q; exact absurd rfl hk
      · exact q
theorem lookup_of_mem {α : Type} {l : List (Str × α)} {n : Str} {c : α} (hn : (l.map (·.1)).Nodup) (m : (n, c) ∈ l) : l.lookup n = some c := by
  induction l with
  | nil => cases m
  | cons xv r ih =>
    obtain ⟨x, v⟩ := xv
    obtain ⟨h1, h2⟩ := List.nodup_cons.mp hn
    rw [List.lookup_cons]
    rcases List.mem_cons.mp m with q | q
    · cases q; simp
    · have : (n == x) = false := by
        have hne : n ≠ x := fun e => h1 (e ▸ List.mem_map.mpr ⟨_, q, rfl⟩)
        simpa using hne
      rw [this]
      exact ih h2 q

section
variable {h : Heap} {σ X : List Addr} {kind : Str → Option NameKind}
theorem bindL_rel : ∀ {xs : List Str} {vs : List AV} {cs : List Value} {ρ ρ' : Loc} {m : Str → Option Value}, updAll ρ xs vs = some ρ' → CvL h σ X vs cs → (∀ y v, kind y = some .local → ρ y = some v → ∃ c, m y = some c ∧ Cv h σ X v c) →
    ∀ y v, kind y = some .local → ρ' y = some v → ∃ c, bindL kind (xs.zip cs) m y = some c ∧ Cv h σ X v c
  | [], vs, cs, ρ, ρ', m, hu, c, hm => by
    cases vs with
    | nil => cases (show some ρ = some ρ' from hu); exact hm
    | cons _ _ => exact Option.noConfusion rfl (heq_of_eq (show (none : Option Loc) = some ρ' from hu))
  | x :: xs, vs, cs, ρ, ρ', m, hu, c, hm => by
    cases vs with
    | nil => exact Option.noConfusion rfl (heq_of_eq (show (none : Option Loc) = some ρ' from hu))
    | cons v vs =>
      cases c with
      | cons c1 cr =>
        replace hu : updAll (upd ρ x v) xs vs = some ρ' := hu
        rw [List.zip_cons_cons]
        unfold bindL
        refine bindL_rel hu cr fun y u ky r => ?_
        unfold upd at r
        split at r
        · rename_i hy; subst hy; cases r
          rw [if_pos ky]; exact ⟨_, by simp, c1⟩
        · rename_i hy
          obtain ⟨c', e, q⟩ := hm y u ky r
          split
          · exact ⟨c', by simp [hy, e], q⟩
          · exact ⟨c', e, q⟩
theorem bindC_rel : ∀ {xs : List Str} {vs : List AV} {cs : List Value} {ρ ρ' : Loc} {m : Str → Option Value}, updAll ρ xs vs = some ρ' → CvL h σ X vs cs → (∀ y v, kind y ≠ some .local → ρ y = some v → ∃ c, m y = some c ∧ Cv h σ X v c) →
    ∀ y v, kind y ≠ some .local → ρ' y = some v → ∃ c, bindC kind (xs.zip cs) m y = some c ∧ Cv h σ X v c
  | [], vs, cs, ρ, ρ', m, hu, c, hm => by
    cases vs with
    | nil => cases (show some ρ = some ρ' from hu); exact hm
    | cons _ _ => exact Option.noConfusion rfl (heq_of_eq (show (none : Option Loc) = some ρ' from hu))
  | x :: xs, vs, cs, ρ, ρ', m, hu, c, hm => by
    cases vs with
    | nil => exact Option.noConfusion rfl (heq_of_eq (show (none : Option Loc) = some ρ' from hu))
    | cons v vs =>
      cases c with
      | cons c1 cr =>
        replace hu : updAll (upd ρ x v) xs vs = some ρ' := hu
        rw [List.zip_cons_cons]
        unfold bindC
        refine bindC_rel hu cr fun y u ky r => ?_
        unfold upd at r
        split at r
        · rename_i hy; subst hy; cases r
          rw [if_neg ky]; exact ⟨_, by simp, c1⟩
        · rename_i hy
          obtain ⟨c', e, q⟩ := hm y u ky r
          split
          · exact ⟨c', e, q⟩
          · exact ⟨c', by simp [hy, e], q⟩
end
structure FnOk (d : DefRec) : Prop where
  kind : d.scope.kind = .function
  co : d.scope.isCoroutine = false
  gen : d.scope.isGenerator = false
  args : ∀ a ∈ d.params.args, isSto d.scope a.arg = true
  free : ∀ y ∈ d.scope.names, y.2 ≠ .free
  names : (d.scope.names.map (·.1)).Nodup
  argN : (d.params.args.map (·.arg)).Nodup
theorem fnOk_of {d : DefRec} (h : fnOk d = true) : FnOk d := by
  unfold fnOk at h
  simp only [Bool.and_eq_true, decide_eq_true_eq, List.all_eq_true, Bool.not_eq_true'] at h
  obtain ⟨h1, h2, h3, h4, h5, h6, h7⟩ := h
  exact ⟨h1, h2, h3, h4, fun y m => by simpa using h5 y m, h6, h7⟩

theorem plainArgs_eq {a : Arguments} {xs : List Str} (h : plainArgs a = some xs) : xs = a.args.map (·.arg) := by
  unfold plainArgs at h
  split at h
  · exact (Option.some.inj h).symm
  · cases h

section
variable {prog : Program} {w : World} {h₀ : Heap} {C : Cfg} {p : Program} {loose : List Str} {mean : ExcName → Option Value} {mg mb : Str → Option Value}

theorem EnvOk.call {d : DefRec} {pm code doc : Value} {fa : Addr} {xs : List Str} {vs : List AV} {cs : List Value} {ρ : Loc} {H : HP} {σ X : List Addr} {s s₁ : Shared} (f : FnOk d) (hu : updAll locNil xs vs = some ρ) (I : InvH h₀ H σ X s.heap) (c : CvL s.heap σ X vs cs)
    (x : InCallC s (callEnvC (docDef d.name d.params d.body d.scope pm code doc) s.heap.objs.size fa).locals (bindL (callEnvC (docDef d.name d.params d.body d.scope pm code doc) s.heap.objs.size fa).kindOf (xs.zip cs) fun _ => none)
      (callEnvC (docDef d.name d.params d.body d.scope pm code doc) s.heap.objs.size fa).cells (bindC (callEnvC (docDef d.name d.params d.body d.scope pm code doc) s.heap.objs.size fa).kindOf (xs.zip cs) fun _ => none) s₁) :
    EnvOk h₀ (callEnvC (docDef d.name d.params d.body d.scope pm code doc) s.heap.objs.size fa) d.scope ρ σ X s₁.heap where
  kind := f.kind
  loc := fun _ e => e
  cel := fun y e => by
    unfold isCel at e
    split at e
    · rename_i q; exact .inl q
    · rename_i q; exact .inr q
    · cases e
  sto := fun _ e => e
  glb := fun _ e => e
  gl := rfl
  bl := rfl
  ns := ⟨_, x.toInCall.ns, fun y v _ k r => by
    obtain ⟨cv, e, q⟩ := bindL_rel hu c (fun _ _ _ q => by simp [locNil] at q) y v k r
    exact ⟨cv, e, q.keeps x.toInCall.keep⟩⟩
  cells := fun y k => by
    have hc : d.scope.names.lookup y = some .cell := by
      rcases k with k | k
      · exact k
      · exact absurd rfl (f.free _ (mem_of_lookup k))
    obtain ⟨a, ha⟩ := Option.isSome_iff_exists.mp (cellsFrom_some (lo := s.heap.objs.size + 1) (acc := []) (.inl (mem_of_lookup hc)))
    refine ⟨a, _, ha, x.cell y a ha, fun v r => ?_⟩
    obtain ⟨cv, e, q⟩ := bindC_rel (kind := (callEnvC (docDef d.name d.params d.body d.scope pm code doc) s.heap.objs.size fa).kindOf) hu c (fun _ _ _ q => by simp [locNil] at q) y v (by
      intro q
      have q : d.scope.names.lookup y = some .local := q
      rw [hc] at q; cases q) r
    exact ⟨cv, e, q.keeps x.toInCall.keep⟩
  there := fun n a m => by
    have := lookup_of_mem (cellsFrom_nodup (lo := s.heap.objs.size + 1) (acc := []) f.names List.nodup_nil (fun _ m => nomatch m)) m
    exact ⟨_, x.cell n a this⟩
  apart := fun y z a hy hz => name_of_addr x.apart (mem_of_lookup hy) (mem_of_lookup hz)
  own := fun a m => by
    have hge : s.heap.objs.size ≤ a := by
      rcases List.mem_cons.mp m with rfl | m
      · exact Nat.le_refl _
      · obtain ⟨⟨n, c⟩, hm, rfl⟩ := List.mem_map.mp m
        exact Nat.le_of_lt (x.above n c hm)
    have hn : s.heap.get? a = none := by
      cases e : s.heap.get? a with
      | none => rfl
      | some o => exact absurd (Heap.lt_size e) (Nat.not_lt.mpr hge)
    refine ⟨fun q => ?_, ?_⟩
    · obtain ⟨o, e⟩ := I.there q; rw [hn] at e; cases e
    · cases e : h₀.get? a with
      | none => rfl
      | some o => rw [I.keep _ _ e] at hn; cases hn

theorem bang_cps (f : Str) : (bang f).cps = f.cps.push 33 := by
  show f.cps ++ _ = _
  rw [← Array.append_singleton]; rfl
theorem bang_inj {f g : Str} (h : bang f = bang g) : f = g := by
  have := congrArg Str.cps h
  rw [bang_cps, bang_cps] at this
  have := (Array.push_inj_left (a := 33)).mp this
  cases f; cases g; simp only at this; rw [this]
theorem bang_back (f : Str) : (bang f).cps.back? = some 33 := by rw [bang_cps]; simp

theorem qn_cps (f : Str) : (qn f).cps = f.cps.push 63 := by
  show f.cps ++ _ = _
  rw [← Array.append_singleton]; rfl
theorem qn_inj {f g : Str} (h : qn f = qn g) : f = g := by
  have := congrArg Str.cps h
  rw [qn_cps, qn_cps] at this
  have := (Array.push_inj_left (a := 63)).mp this
  cases f; cases g; simp only at this; rw [this]
theorem qn_back (f : Str) : (qn f).cps.back? = some 63 := by rw [qn_cps]; simp
theorem qn_bang {f g : Str} (h : qn f = bang g) : False := by
  have := qn_back f
  rw [h, bang_back] at this
  cases this
theorem quOf_some {f : Str} {d : DefRec} (h : quOf C f = some d) : d ∈ C.fns ∧ qn d.name = f :=
  ⟨List.mem_of_find?_eq_some h, of_decide_eq_true (List.find?_some (p := fun d : DefRec => decide (qn d.name = f)) h)⟩
theorem bangOf_some {f : Str} {d : DefRec} (h : bangOf C f = some d) : d ∈ C.fns ∧ bang d.name = f :=
  ⟨List.mem_of_find?_eq_some h, of_decide_eq_true (List.find?_some (p := fun d : DefRec => decide (bang d.name = f)) h)⟩

theorem phi_ok (G : Glb C p loose mean mg mb h₀) : ∀ (n : Nat) (A : Around) (l : List Env), A.depth + n < recursionLimit → A.units + 3 * n + 200 < cLine → FrA A l → (∀ a ∈ frs A, h₀.get? a = none) → (A.handled = none → PhiOk prog w h₀ mg A (callF C n) ∧ PhiXOk prog w h₀ mg A (callF C n)) ∧ PhiQ prog w h₀ mg A (callF C n)
  | 0, _, _, _, _, _, _ => ⟨fun _ => ⟨fun _ _ _ _ _ _ e => (nomatch e), fun _ _ _ _ _ _ e => (nomatch e)⟩, fun _ _ _ _ _ _ e => (nomatch e)⟩
  | n + 1, A, l, hd, hu, hfa, hlow => by
    -- a call of the def d: its body is run in a frame of its own
    have run : ∀ (d : DefRec), d ∈ C.fns → ∀ (xs : List Str) (vs : List AV) (ρ : Loc), plainArgs d.params = some xs → updAll locNil xs vs = some ρ → ∀ (fa : Addr), mg d.name = some (.ref fa) → ∀ (σ X : List Addr) (s : Shared) (H : HP) (cs : List Value) (Q E : Value → Shared → Prop), InvH h₀ H σ X s.heap → Lv A X σ s.heap → CvL s.heap σ X vs cs →
        (∀ (env : Env) (h₁ : Heap) (tk₁ : Nat), EnvOk h₀ env d.scope ρ σ X h₁ → InvH h₀ H σ X h₁ → Lv (A.deeper env) X σ h₁ → (∀ b o, s.heap.get? b = some o → h₁.get? b = some o) → (∀ a ∈ ownA env, s.heap.get? a = none) → FrE h₀ (A.deeper env) env → (A.handled = none → ∀ b', BkX prog w h₀ mg (A.deeper env) (callF C n) ⟨d.name, d.scope, b', false⟩ env) → PhiQS prog w h₀ mg (A.deeper env) (callF C n) →
          wpAny (model prog w) (A.deeper env) (execs d.body env) (fun f s' => Q (match f with | .ret v => v | _ => .none) s') (fun e s' => wpAny (model prog w) (A.deeper env) (leaving env e) (fun _ s'' => E e s'') (fun e' s'' => E e' s'') s') { s with heap := h₁, toks := tk₁ }) → wpAny (model prog w) A (call (.ref fa) cs) Q E s := by
      intro d hmem xs vs ρ hxs hρ fa hmg σ X s H cs Q E I hX c kk
      have fo := fnOk_of (G.fok d hmem)
      obtain ⟨fa', o, pm, code, doc, hmg', ho, hdat, hcd⟩ := G.top.fn d (G.fns d hmem)
      rw [hmg] at hmg'
      cases hmg'
      have hxa := plainArgs_eq hxs
      have hlen : cs.length = xs.length := by rw [c.length]; exact updAll_length hρ
      refine wpAny_call (codeAny_call_cells (by lia) (I.keep _ _ ho) hdat (G.top.nolimit.keeps I.keep) (hcd.keeps I.keep) rfl (bind_plain hxs (hxa ▸ fo.argN) hlen) rfl ?_ (fun s₁ x => ?_) fo.co fo.gen fo.kind)
      · intro y hy
        obtain ⟨y1, y2⟩ := y
        have hm : y1 ∈ xs := (List.of_mem_zip hy).1
        rw [hxa] at hm
        obtain ⟨a, ma, rfl⟩ := List.mem_map.mp hm
        have := fo.args a ma
        unfold isSto at this
        split at this
        · rename_i q; exact .inl q
        · rename_i q; exact .inr ⟨q, cellsFrom_some (.inl (mem_of_lookup q))⟩
        · cases this
      · have ok := EnvOk.call fo hρ I c x
        obtain ⟨h₁, tk₁, hs₁⟩ := x.toInCall.same
        have keep := x.toInCall.keep
        subst hs₁
        have hframe : (callEnvC (docDef d.name d.params d.body d.scope pm code doc) s.heap.objs.size fa).frame = some (callEnvC (docDef d.name d.params d.body d.scope pm code doc) s.heap.objs.size fa).locals := by
          unfold callEnvC newEnv; simp only [Env.frame]
        generalize callEnvC (docDef d.name d.params d.body d.scope pm code doc) s.heap.objs.size fa = env at x ok hframe ⊢
        have hnew : ∀ a ∈ ownA env, s.heap.get? a = none := fun a m => by
          have hge : s.heap.objs.size ≤ a := by
            rcases List.mem_cons.mp m with rfl | m
            · exact x.toInCall.fresh
            · obtain ⟨⟨n, c⟩, hm, rfl⟩ := List.mem_map.mp m
              exact Nat.le_trans x.toInCall.fresh (Nat.le_of_lt (x.above n c hm))
          cases e : s.heap.get? a with
          | none => rfl
          | some o => exact absurd (Heap.lt_size e) (Nat.not_lt.mpr hge)
        have hfrs : frs (A.deeper env) = env.locals :: frs A := by
          unfold frs
          rw [Around.frames_deeper hfa.1, hfa.1]
          show (env :: l).filterMap _ = _
          rw [List.filterMap_cons, hframe]; rfl
        have fr : FrE h₀ (A.deeper env) env := ⟨⟨l, Around.frames_deeper hfa.1, fun e m => by
          rcases List.mem_cons.mp m with rfl | m
          · exact ⟨by rw [ok.kind]; decide, _, hframe⟩
          · exact hfa.2 e m⟩, hframe, fun a m => by
          rw [hfrs] at m
          rcases List.mem_cons.mp m with rfl | m
          · exact (ok.own _ List.mem_cons_self).2
          · exact hlow a m⟩
        have fa' : FrA (A.deeper env) (env :: l) := ⟨Around.frames_deeper hfa.1, let ⟨_, h⟩ := fr.fr; fun e m => by
          rcases List.mem_cons.mp m with rfl | m
          · exact ⟨by rw [ok.kind]; decide, _, hframe⟩
          · exact hfa.2 e m⟩
        have ih := phi_ok G n (A.deeper env) (env :: l) (by simp [Around.deeper]; lia) (by simp; lia) fa' fr.low
        have ihm := fun e : Value => phi_ok G n ((A.deeper env).mark (some e)) (env :: l) (by show (A.deeper env).depth + n < recursionLimit; simp [Around.deeper]; lia) (by simp; lia) fa' fr.low
        have L1 : Lv (A.deeper env) X σ h₁ := ⟨(hX.keeps keep).x, fun a m => by
          rw [hfrs] at m
          rcases List.mem_cons.mp m with rfl | m
          · obtain ⟨m0, ⟨o, es, ep, ho, hd, _⟩, _⟩ := ok.ns; exact ⟨o, ho, es, ep, hd⟩
          · exact (hX.keeps keep).f a m, fun a m => by
          rw [hfrs] at m
          rcases List.mem_cons.mp m with rfl | m
          · exact (ok.own _ List.mem_cons_self).1
          · exact (hX.keeps keep).s a m⟩
        exact kk env h₁ tk₁ ok (I.keeps keep) L1 keep hnew fr (fun hh b' _ => ⟨(ih.1 hh).1, (ih.1 hh).2, hh, fr⟩) ⟨ih.2, fun e => (ihm e).2⟩
    refine ⟨fun hh => ⟨?_, ?_⟩, ?_⟩
    · intro f base vs H v H' e fa hmg σ X s cs Q E I hX c k
      replace e : callS C (callF C n) base _ vs H = _ := e
      unfold callS at e
      split at e
      · unfold callO at e
        split at e
        · rename_i d hbg
          obtain ⟨hmem, hname⟩ := bangOf_some hbg
          rw [← hname, G.bang d hmem] at hmg; cases hmg
        · split at e
          · rename_i d hq
            obtain ⟨hmem, hname⟩ := quOf_some hq
            rw [← hname, G.qu d hmem] at hmg; cases hmg
          · cases e
      rename_i d hfn
      split at e
      case h_1 => cases e
      rename_i xs hxs
      split at e
      case h_1 => cases e
      rename_i ρ hρ
      have hmem : d ∈ C.fns := List.mem_of_find?_eq_some hfn
      have hname : d.name = f := by
        have := List.find?_some (p := fun d : DefRec => decide (d.name = f)) hfn
        exact of_decide_eq_true this
      subst hname
      have body : ∀ (b' : Nat) (fl : Fl) (ρ' : Loc) (H1 : HP), execSs C (callF C n) synMax ⟨d.name, d.scope, b', false⟩ d.body ρ H = some (fl, ρ', H1) →
          (∀ cv σ' h' tk, Ext [] σ σ' s.heap h' → InvH h₀ H1 σ' X h' → Cv h' σ' X (match fl with | .ret v => v | .next => .none) cv → Q cv { s with heap := h', toks := tk }) → wpAny (model prog w) A (call (.ref fa) cs) Q E s := by
        intro b' fl ρ' H1 e1 kk
        refine run d hmem xs vs ρ hxs hρ fa hmg σ X s H cs Q E I hX c fun env h₁ tk₁ ok I1 L1 keep hnew fr bk hS => ?_
        refine (exec_sim G synMax (A.deeper env) (by simp; lia) hS).1.2 ⟨d.name, d.scope, b', false⟩ d.body env ρ H (bk hh b') fl ρ' H1 e1 σ X { s with heap := h₁, toks := tk₁ } _ _ ok I1 L1 fun cf σ2 h2 tk2 E2 ok2 I2 F2 => ?_
        have E02 : Ext [] σ σ2 s.heap h2 := (((Ext.of_keeps keep).trans E2) : Ext (ownA env) σ σ2 s.heap h2).drop fun a m => .inr (hnew a m)
        cases fl with
        | next =>
          cases cf <;> simp only [FlOk] at F2
          exact kk .none σ2 h2 tk2 E02 I2 .none
        | ret v =>
          cases cf <;> simp only [FlOk] at F2
          exact kk _ σ2 h2 tk2 E02 I2 F2
      split at e
      · split at e
        case h_2 => cases e
        unfold finZ at e
        split at e
        case h_2 => cases e
        rename_i v0 ρ' H1 e1
        split at e
        case h_2 => cases e
        rename_i v1 hv1
        cases e
        have hσ : σ = [] := List.length_eq_zero_iff.mp I.len
        refine body 0 _ _ _ e1 fun cv σ2 h2 tk2 E2 I2 c2 => ?_
        subst hσ
        exact k cv [] h2 tk2 ⟨E2.keep, E2.slot, E2.live, List.prefix_refl _, fun a m => .inl m, fun _ _ m => absurd m List.not_mem_nil⟩ ⟨I2.keep, fun _ m => absurd m List.not_mem_nil, rfl, List.nodup_nil, fun _ m => absurd m List.not_mem_nil, fun k o e => absurd e (by simp)⟩ (fz_at I2 c2 hv1)
      · unfold finR at e
        split at e
        · rename_i v0 ρ' H1 e1
          cases e
          exact body base _ _ _ e1 k
        · rename_i ρ' H1 e1
          cases e
          exact body base _ _ _ e1 k
        · cases e
    · intro base f vs H D H' e fa hmg σ X s cs Q E I hX c k
      replace e : callS C (callF C n) base _ vs H = _ := e
      unfold callS at e
      split at e
      case h_2 =>
        rename_i d hfn
        have hmem : d ∈ C.fns := List.mem_of_find?_eq_some hfn
        have hname : d.name = bang f := by
          have := List.find?_some (p := fun d : DefRec => decide (d.name = bang f)) hfn
          exact of_decide_eq_true this
        have := G.noBang d hmem
        rw [hname, bang_back] at this
        exact absurd rfl this
      unfold callO at e
      split at e
      case h_2 =>
        split at e
        · rename_i d hq
          exact (qn_bang (quOf_some hq).2).elim
        · cases e
      rename_i d hbg
      obtain ⟨hmem, hname⟩ := bangOf_some hbg
      have hname := bang_inj hname
      subst hname
      unfold callX at e
      split at e
      case h_1 => cases e
      rename_i xs hxs
      split at e
      case h_1 => cases e
      rename_i ρ hρ
      split at e
      case isTrue => cases e
      split at e
      case h_2 => cases e
      rename_i D1 H1 e1
      cases e
      refine run d hmem xs vs ρ hxs hρ fa hmg σ X s H cs Q E I hX c fun env h₁ tk₁ ok I1 L1 keep hnew fr bk hS => ?_
      refine (exec_sim G synMax (A.deeper env) (by simp; lia) hS).2.2 ⟨d.name, d.scope, base, false⟩ d.body env ρ H (bk hh base) D H' e1 σ X { s with heap := h₁, toks := tk₁ } _ _ ok I1 L1 fun ex σ2 h2 h' tk2 E2 I2 L2 th => ?_
      have E02 : Ext [] σ σ2 s.heap h2 := (((Ext.of_keeps keep).trans E2) : Ext (ownA env) σ σ2 s.heap h2).drop fun a m => .inr (hnew a m)
      refine leave_thr (s := { s with heap := h', toks := tk2 }) fr L2 th fun h3 T xc he hT tc => ?_
      exact k ex T σ2 h3 tk2 (E02.trans (tc.ext L2)) (((I2.aside he).aside hT).tch L2 fr.low tc) (E02.none_back he) (E02.none_back hT) xc
    · intro f base vs H v H' e fa hmg σ X s cs Q E I hX c k
      replace e : callS C (callF C n) base (qn f) vs H = _ := e
      unfold callS at e
      split at e
      case h_2 =>
        rename_i d hfn
        have hmem : d ∈ C.fns := List.mem_of_find?_eq_some hfn
        have hname : d.name = qn f := of_decide_eq_true (List.find?_some (p := fun d : DefRec => decide (d.name = qn f)) hfn)
        have := G.noQ d hmem
        rw [hname, qn_back] at this
        exact absurd rfl this
      unfold callO at e
      split at e
      · rename_i d hbg
        exact (qn_bang (bangOf_some hbg).2.symm).elim
      split at e
      case h_2 => cases e
      rename_i d hq
      obtain ⟨hmem, hname⟩ := quOf_some hq
      have hname := qn_inj hname
      subst hname
      unfold callY at e
      split at e
      case h_1 => cases e
      rename_i xs hxs
      split at e
      case h_1 => cases e
      rename_i ρ hρ
      split at e
      case isTrue => cases e
      have body : ∀ (fl : Fl) (ρ' : Loc) (H1 : HP), execSs C (callF C n) synMax ⟨d.name, d.scope, base, true⟩ d.body ρ H = some (fl, ρ', H1) →
          (∀ cv σ' h' tk, Ext [] σ σ' s.heap h' → InvH h₀ H1 σ' X h' → Cv h' σ' X (match fl with | .ret v => v | .next => .none) cv → Q cv { s with heap := h', toks := tk }) → wpAny (model prog w) A (call (.ref fa) cs) Q E s := by
        intro fl ρ' H1 e1 kk
        refine run d hmem xs vs ρ hxs hρ fa hmg σ X s H cs Q E I hX c fun env h₁ tk₁ ok I1 L1 keep hnew fr bk hS => ?_
        refine (exec_sim G synMax (A.deeper env) (by simp; lia) hS).1.2 ⟨d.name, d.scope, base, true⟩ d.body env ρ H (fun q => nomatch q) fl ρ' H1 e1 σ X { s with heap := h₁, toks := tk₁ } _ _ ok I1 L1 fun cf σ2 h2 tk2 E2 ok2 I2 F2 => ?_
        have E02 : Ext [] σ σ2 s.heap h2 := (((Ext.of_keeps keep).trans E2) : Ext (ownA env) σ σ2 s.heap h2).drop fun a m => .inr (hnew a m)
        cases fl with
        | next =>
          cases cf <;> simp only [FlOk] at F2
          exact kk .none σ2 h2 tk2 E02 I2 .none
        | ret v =>
          cases cf <;> simp only [FlOk] at F2
          exact kk _ σ2 h2 tk2 E02 I2 F2
      unfold finR at e
      split at e
      · rename_i v0 ρ' H1 e1
        cases e
        exact body _ _ _ e1 k
      · rename_i ρ' H1 e1
        cases e
        exact body _ _ _ e1 k
      · cases e
end
end Mine

namespace Mine
open PySem PySem.W PyProof.Rows PySem.Calls

theorem ints_of {R : WRecords} : ∀ {xs : List WData}, WShape.hasItems R xs .int = true → ∃ ns : List Int, xs = ns.map WData.int
  | [], _ => ⟨[], rfl⟩
  | x :: xs, h => by
    simp only [WShape.hasItems, Bool.and_eq_true] at h
    obtain ⟨ns, e⟩ := ints_of h.2
    obtain ⟨i, rfl⟩ := hasW_int h.1
    exact ⟨i :: ns, by rw [e]; rfl⟩

theorem cvInts {P : Params} {h : Heap} : ∀ {ns : List Int} {vs : List Value}, WellAll P h vs (ns.map WData.int) → CvL h [] [] (ns.map AV.int) vs
  | [], vs, x => by cases x; exact .nil
  | n :: ns, vs, x => by
    cases x with
    | cons a r =>
      cases a
      exact .cons (.int _ _) (cvInts r)

/-! ### the classes of exceptions at the start -/
noncomputable def ownOk (h : Heap) (N : Addr) : Bool := h.isNs N && qN.all fun n => (h.nsMap N n).isNone
noncomputable def refO (v : Value) : Option Addr := match v with | .ref a => some a | _ => none
noncomputable def clsO (o : Obj) : Option ClassData := match o.data with | .cls cd => some cd | _ => none
noncomputable def clsA (h : Heap) (A : Addr) : Option ClassData := (h.get? A).bind clsO
noncomputable def tailOk (h : Heap) : List Value → Bool
  | [] => false
  | v :: tl => decide (v :: tl = bmV) || ((refO v).any fun A => (clsA h A).any fun cd => ownOk h cd.ns) && tailOk h tl
noncomputable def sltOk (l : List (Option Value)) : Bool := l.length == 6 && decide (l[4]? = some (some (.builtin "ValueError.__new__")))
noncomputable def xOne (h : Heap) (exc : List (Str × Addr)) (sub : Addr → Str → Bool) (e : Str × Addr) : Bool :=
  decide (h.nsMap mainGlobals e.1 = some (.ref e.2)) && (h.get? e.2).any fun o => decide (o.cls = .type "type") && (sltOk o.slots.toList && (clsO o).any fun cd =>
    decide (cd.mro = .ref e.2 :: cd.mro.tail) && (tailOk h cd.mro.tail && (exc.all (fun y => cd.mro.contains (.ref y.2) == sub e.2 y.1) && (sub e.2 "ValueError" && (!cd.hasDel && ownOk h cd.ns)))))
noncomputable def XSays (exc : List (Str × Addr)) (sub : Addr → Str → Bool) (h : Heap) : Prop :=
  ∀ x D, (x, D) ∈ exc → h.nsMap mainGlobals x = some (.ref D) ∧ ∃ bm, XCls h D bm ∧ (∀ y D', (y, D') ∈ exc → (Value.ref D :: bm).contains (.ref D') = sub D y) ∧ sub D "ValueError" = true
theorem ownOk_of {h : Heap} {N : Addr} (e : ownOk h N = true) : h.Ns N (h.nsMap N) ∧ ∀ n ∈ qN, h.nsMap N n = none := by
  unfold ownOk at e
  rw [Bool.and_eq_true] at e
  exact ⟨.of_isNs e.1, fun n m => Option.isNone_iff_eq_none.mp (List.all_eq_true.mp e.2 n m)⟩
theorem refO_of {v : Value} {A : Addr} (h : refO v = some A) : v = .ref A := by cases v <;> cases h; rfl
theorem clsO_of {o : Obj} {cd : ClassData} (h : clsO o = some cd) : o.data = .cls cd := by
  unfold clsO at h
  cases hd : o.data <;> rw [hd] at h <;> cases h; rfl
theorem tailOk_of {h : Heap} {tl : List Value} (e : tailOk h tl = true) : TailC h tl := by
  induction tl with
  | nil => cases e
  | cons v tl ih =>
    rw [tailOk, Bool.or_eq_true] at e
    cases e with
    | inl e => rw [of_decide_eq_true e]; exact .base
    | inr e =>
      obtain ⟨e1, e2⟩ := Bool.and_eq_true_iff.mp e
      obtain ⟨A, hA, e1⟩ := (Option.any_eq_true _ _).mp e1
      obtain ⟨cd, hc, e1⟩ := (Option.any_eq_true _ _).mp e1
      obtain ⟨o, ho, hc⟩ := Option.bind_eq_some_iff.mp hc
      have hd := clsO_of hc
      rw [refO_of hA]
      cases o
      cases hd
      exact .own ho (ownOk_of e1).1 (ownOk_of e1).2 (ih e2)
inductive Slt : List (Option Value) → Prop
  | mk (k0 k1 k2 k3 k5 : Option Value) : Slt [k0, k1, k2, k3, some (.builtin "ValueError.__new__"), k5]
theorem sltOk_of {l : List (Option Value)} (h : sltOk l = true) : Slt l := by
  obtain ⟨h1, h2⟩ := Bool.and_eq_true_iff.mp h
  have h1 := eq_of_beq h1
  have h2 := of_decide_eq_true h2
  rcases l with _ | ⟨a, _ | ⟨b, _ | ⟨c, _ | ⟨d, _ | ⟨e, _ | ⟨f, _ | ⟨g, l⟩⟩⟩⟩⟩⟩⟩
  case cons.cons.cons.cons.cons.cons.nil => cases h2; exact ⟨a, b, c, d, f⟩
  all_goals (simp only [List.length_cons, List.length_nil] at h1; lia)
theorem xobj_of {h : Heap} {D : Addr} {o : Obj} {cd : ClassData} {bm : List Value} (ho : h.get? D = some o) (e1 : o.cls = .type "type") (e2 : Slt o.slots.toList) (e3 : o.data = .cls cd) (e4 : cd.mro = .ref D :: bm) (e5 : cd.hasDel = false) (e6 : ownOk h cd.ns = true) : XObj h D bm := by
  cases cd with
  | mk nm bs mro N q hdc sn sb ab col del =>
    cases o with
    | mk c0 dd dt sl =>
      cases sl with
      | mk sl =>
        dsimp only at e1 e2 e3 e4 e5 e6
        subst e1 e3 e4 e5
        cases e2 with
        | mk k0 k1 k2 k3 k5 => exact .mk N nm q bs hdc sn sb ab col dd k0 k1 k2 k3 k5 _ ho (ownOk_of e6).1 (ownOk_of e6).2
theorem xOne_of {h : Heap} {exc : List (Str × Addr)} {sub : Addr → Str → Bool} (x : Str) (D : Addr) (e : xOne h exc sub (x, D) = true) :
    h.nsMap mainGlobals x = some (.ref D) ∧ ∃ bm, XCls h D bm ∧ (∀ y D', (y, D') ∈ exc → (Value.ref D :: bm).contains (.ref D') = sub D y) ∧ sub D "ValueError" = true := by
  have e1 := Bool.and_eq_true_iff.mp e
  obtain ⟨o, ho, e2⟩ := (Option.any_eq_true _ _).mp e1.2
  have e3 := Bool.and_eq_true_iff.mp e2
  have e4 := Bool.and_eq_true_iff.mp e3.2
  obtain ⟨cd, hc, e5⟩ := (Option.any_eq_true _ _).mp e4.2
  have q1 := Bool.and_eq_true_iff.mp e5
  have q2 := Bool.and_eq_true_iff.mp q1.2
  have q3 := Bool.and_eq_true_iff.mp q2.2
  have q4 := Bool.and_eq_true_iff.mp q3.2
  have q5 := Bool.and_eq_true_iff.mp q4.2
  have hm := of_decide_eq_true q1.1
  refine ⟨of_decide_eq_true e1.1, cd.mro.tail, ⟨xobj_of ho (of_decide_eq_true e3.1) (sltOk_of e4.1) (clsO_of hc) hm (by simpa using q5.1) q5.2, tailOk_of q2.1⟩, fun y D' m => ?_, q4.1⟩
  have := eq_of_beq (List.all_eq_true.mp q3.1 (y, D') m)
  rw [hm] at this
  exact this
theorem XSays.keeps {exc : List (Str × Addr)} {sub : Addr → Str → Bool} {h h' : Heap} (x : XSays exc sub h) (k : ∀ b o, h.get? b = some o → h'.get? b = some o) : XSays exc sub h' := fun y D m => by
  obtain ⟨q1, bm, q2, q3⟩ := x y D m
  refine ⟨?_, bm, q2.keeps k, q3⟩
  unfold Heap.nsMap at q1 ⊢
  cases ho : h.get? mainGlobals with
  | none => rw [ho] at q1; cases q1
  | some o => rw [k _ _ ho]; rw [ho] at q1; exact q1
noncomputable def hookOf (exc : List (Str × Addr)) (sub : Addr → Str → Bool) : PySem.W.Hook :=
  ⟨Bool, fun s => exc.all (xOne s.heap exc sub), fun _ => true, fun _ h => XSays exc sub h, fun _ _ e x D m => xOne_of x D (List.all_eq_true.mp e (x, D) m), fun _ _ _ x k => x.keeps k⟩

theorem walk_of {l : OpenLaw} {q : Program} {loose : List Str} {XP : (Str → Option Value) → Heap → Prop} {d : DefRec} {m : Nat} (C : Cfg) (N : Nat) (hm : l.most = some m) (hb : l.bound = none) (hm' : m ≤ sizeMax) (hN : N < 500)
    (hfn : C.fns = recsOf q) (hfo : (recsOf q).all fnOk = true)
    (hbg : ((recsOf q).all fun d => !(d.name.cps.back? == some 33) && (let x := bang d.name; !(startupNames.contains x || ((looseW q loose).contains x || (((recsOf q).map (·.name)).contains x || (((litsOf q).map (·.1)).contains x || ((clssOf q (looseW q loose)).map (·.name)).contains x)))))) = true)
    (hbl : (bltNames.all fun x => !(startupNames.contains x || ((looseW q loose).contains x || (((recsOf q).map (·.name)).contains x || (((litsOf q).map (·.1)).contains x || ((clssOf q (looseW q loose)).map (·.name)).contains x))))) = true)
    (hqg : ((recsOf q).all fun d => !(d.name.cps.back? == some 63) && (let x := qn d.name; !(startupNames.contains x || ((looseW q loose).contains x || (((recsOf q).map (·.name)).contains x || (((litsOf q).map (·.1)).contains x || ((clssOf q (looseW q loose)).map (·.name)).contains x)))))) = true)
    (hin : (C.gis.all fun z => match valOf q z.1 with | some (.int i) => decide (i = z.2) | _ => false) = true)
    (hlaw : ∀ ns : List Int, ns.length ≤ m → ∃ H', callF C N 0 d.name [.list (ns.map AV.int)] [] = some (.bool true, H')) :
    WalkO q loose XP (hookOf C.exc C.sub).says l.row.toRowW d [] fun f vs => PySem.call f vs := by
  intro w s₀ s₁ mg mb G Y fa o pm cd doc dV kV ho hd hcd hD hmg hg args vals as hpre hlay hrd hwl hlo
  have T := G.T
  obtain ⟨h1, h2⟩ := pre_splitW hpre
  obtain ⟨x, r, rfl, hx, hr⟩ := hasAllW_cons (e := .list .int) (es := []) h1
  have := hasAllW_nil hr
  subst this
  obtain ⟨xs, rfl, hxs⟩ := hasW_list hx
  obtain ⟨ns, rfl⟩ := ints_of hxs
  have hlen : ns.length ≤ m := by
    have h2 : WTm.holds l.row.toRowW.records l.pre { args := [.list (ns.map WData.int)] } = true := h2
    unfold OpenLaw.pre at h2
    rw [hm, hb] at h2
    have h3 := (holds_andW h2).1
    simp [WTm.holds, WTm.value] at h3
    cases hl : less? (WData.int (m : Int)) (WData.int (ns.length : Int)) with
    | none => rw [hl] at h3; simp at h3
    | some b =>
      rw [hl] at h3
      cases b with
      | true => simp at h3
      | false =>
        have hl : some (decide ((m : Int) < (ns.length : Int))) = some false := hl
        simp at hl
        lia
  obtain ⟨H', hev⟩ := hlaw ns hlen
  cases hwl with
  | cons a r =>
    cases r
    cases a with
    | list hgx hwx =>
      rename_i la vs
      have Gl : Glb C q (looseW q loose) (ExcName.means s₀.heap) mg mb s₁.heap := ⟨T, fun d m => hfn ▸ m, fun d m => List.all_eq_true.mp hfo d (hfn ▸ m), fun x m => by
        have := List.all_eq_true.mp hbl x m
        simp only [Bool.not_eq_true', Bool.or_eq_false_iff, List.contains_eq_mem, decide_eq_false_iff_not] at this
        obtain ⟨q1, q2, q3, q4, q5⟩ := this
        exact T.free x q1 q2 q3 q4 q5, fun d m => by
        have := List.all_eq_true.mp hbg d (hfn ▸ m)
        dsimp only at this
        simp only [Bool.and_eq_true, Bool.not_eq_true', Bool.or_eq_false_iff, List.contains_eq_mem, decide_eq_false_iff_not] at this
        obtain ⟨-, q1, q2, q3, q4, q5⟩ := this
        exact T.free _ q1 q2 q3 q4 q5, fun d m => by
        have := List.all_eq_true.mp hbg d (hfn ▸ m)
        dsimp only at this
        rw [Bool.and_eq_true, Bool.not_eq_true'] at this
        exact fun e => by rw [e] at this; exact absurd this.1 (by decide), fun d m => by
        have := List.all_eq_true.mp hqg d (hfn ▸ m)
        dsimp only at this
        simp only [Bool.and_eq_true, Bool.not_eq_true', Bool.or_eq_false_iff, List.contains_eq_mem, decide_eq_false_iff_not] at this
        obtain ⟨-, q1, q2, q3, q4, q5⟩ := this
        exact T.free _ q1 q2 q3 q4 q5, fun d m => by
        have := List.all_eq_true.mp hqg d (hfn ▸ m)
        dsimp only at this
        rw [Bool.and_eq_true, Bool.not_eq_true'] at this
        exact fun e => by rw [e] at this; exact absurd this.1 (by decide), fun x D m => by
        have Y : XSays C.exc C.sub s₁.heap := Y
        obtain ⟨q1, q2⟩ := Y x D m
        exact ⟨by rw [T.g.eq_nsMap]; exact q1, q2⟩, fun x i hi => by
        have := List.all_eq_true.mp hin _ (mem_of_lookup hi)
        dsimp only at this
        split at this
        · rename_i j e; rw [e, of_decide_eq_true this]
        · cases this⟩
      have hΦ : PhiOk l.row.toRowW.prog w s₁.heap mg callerA (callF C N) := ((phi_ok Gl N callerA [] (by
        have : callerA.depth < 400 := by decide +kernel
        unfold recursionLimit; lia) (by
        have : callerA.units = 4 := rfl
        unfold cLine; lia) ⟨rfl, by simp⟩ (fun _ m => nomatch m)).1 rfl).1
      have hI : InvH s₁.heap [] [] [] s₁.heap := ⟨fun _ _ e => e, (fun _ m => nomatch m), rfl, List.nodup_nil, (fun _ m => nomatch m), (fun k o e => by simp at e)⟩
      have hc := cvInts hwx
      have hcv : CvL s₁.heap [] [] [.list (ns.map AV.int)] [.ref la] := .cons (.list hgx (fun m => nomatch m) (fun m => nomatch m) (by simp; lia) hc) .nil
      refine hΦ d.name 0 _ [] _ H' hev fa hmg [] [] s₁ [.ref la] _ _ hI ⟨(fun _ m => nomatch m), (fun _ m => nomatch m), (fun _ m => nomatch m)⟩ hcv fun cv σ' h' tk E I C' => ?_
      cases C'
      refine GoodW.toG ⟨.inl ⟨.bool true, .bool true, [], rfl, fun _ => rfl, .bool true, ?_, fun _ => ⟨List.nodup_nil, fun _ m => nomatch m⟩⟩, I.keep, rfl, hg⟩
      show (WShape.has [] (.bool true) .bool && (WTm.eq .res (.lit (.bool true))).holds [] { args := [.list (ns.map WData.int)], res := some (.bool true), after := [.list (ns.map WData.int)] }) = true
      simp [WShape.has, WShape.arms, WTm.holds, WTm.value]
      rw [show same (WData.bool true) (WData.bool true) = true from by simp [same]]
end Mine

namespace Mine
open PySem PyProof.Rows

noncomputable def callQ (b : BF) (es : List (HP → R AV)) (H : HP) : R AV := bnd (evA es H) fun vs H => lft (callBF b vs H) H
noncomputable def methQ (base : Nat) (m : LM) (o : HP → R AV) (es : List (HP → R AV)) (H : HP) : R AV :=
  bnd (o H) fun v H => if isLst H v then bnd (evA es H) fun vs H => lmD m v vs H else none

theorem Qn (a b : String) : (Str.ofString a = Str.ofString b) = (a = b) := by
  apply propext
  constructor
  · intro h
    rw [Str.ofString_eq_toList, Str.ofString_eq_toList] at h
    injection h with h
    have h := List.toArray_inj h
    have : ∀ (l m : List Char), l.map Char.toNat = m.map Char.toNat → l = m := by
      intro l
      induction l with
      | nil => intro m h; cases m <;> simp at h ⊢
      | cons c l ih =>
        intro m h
        cases m with
        | nil => simp at h
        | cons d m =>
          simp only [List.map_cons, List.cons.injEq] at h
          rw [ih m h.2, Char.toNat_inj.mp h.1]
    exact String.toList_inj.mp (this _ _ h)
  · rintro rfl; rfl

theorem Qa {α β : Type} (a : α) (H : HP) (f : α → HP → Option β) : bnd (some (a, H)) f = f a H := rfl
theorem Qb {α : Type} (a : α) (H : HP) : lft (some a) H = some (a, H) := rfl
theorem Qc (ρ : Loc) (H : HP) (k : Loc → HP → RS) : sq (some (.next, ρ, H)) k = k ρ H := rfl
theorem Qd (v : AV) (ρ : Loc) (H : HP) (k : Loc → HP → RS) : sq (some (.ret v, ρ, H)) k = some (.ret v, ρ, H) := rfl
theorem Qe (H : HP) (a b : HP → RS) : iteS (some (true, H)) a b = a H := rfl
theorem Qf (H : HP) (a b : HP → RS) : iteS (some (false, H)) a b = b H := rfl
theorem Qj (ρ : Loc) (x : Str) (v : AV) (H : HP) : lkp (upd ρ x v) x H = some (v, H) := by simp [lkp, upd, lft]
theorem Qk (ρ : Loc) (x y : Str) (v : AV) (H : HP) (h : y ≠ x) : lkp (upd ρ x v) y H = lkp ρ y H := by simp [lkp, upd, h]
theorem lkp_some {ρ : Loc} {x : Str} {v : AV} {H : HP} (h : ρ x = some v) : lkp ρ x H = some (v, H) := by simp [lkp, lft, h]
theorem Ql (ρ : Loc) (x : Str) (v : AV) : upd ρ x v x = some v := by simp [upd]
theorem Qm (ρ : Loc) (x y : Str) (v : AV) (h : y ≠ x) : upd ρ x v y = ρ y := by simp [upd, h]

noncomputable def tt0 : Loc → HP → R Bool := fun _ H => some (true, H)
theorem Qg (H : HP) (ρ : Loc) : dropR (some (.none, H)) ρ = some (.next, ρ, H) := rfl
theorem Qh (v : AV) (ρ : Loc) (H : HP) : finR (some (.ret v, ρ, H)) = some (v, H) := rfl
theorem Qi (ρ : Loc) (H : HP) : finR (some (.next, ρ, H)) = some (.none, H) := rfl
theorem Qq (H : HP) : evA [] H = some ([], H) := rfl
theorem Qr (e : HP → R AV) (es : List (HP → R AV)) (H : HP) : evA (e :: es) H = bnd (e H) fun v H => bnd (evA es H) fun vs H => some (v :: vs, H) := rfl
theorem Qs (v : AV) (H : HP) : callBF .len [v] H = callLen H v := rfl
theorem Qt (b : Int) (H : HP) : callBF .range [.int b] H = if small b = true then some (.range 0 b) else none := rfl
theorem Qu (xs : List AV) (H : HP) : callBF .list [.list xs] H = some (.list xs) := rfl
theorem Qv (xs : List AV) (H : HP) : callBF .all [.list xs] H = (boolsOf xs).map fun bs => AV.bool (bs.all id) := rfl
theorem Qw (H : HP) (xs : List AV) : itemsOf H (.tup xs) = some xs := rfl
theorem Qx (H : HP) (xs : List AV) : itemsOf H (.list xs) = some xs := rfl
theorem itemsOf_ref {H : HP} {k : Nat} {xs : List AV} (h : H[k]? = some xs) : itemsOf H (.ref k) = some xs := h
theorem Qy (H : HP) (xs : List AV) : seqOf H (.list xs) = some xs := rfl
theorem seqOf_ref {H : HP} {k : Nat} {xs : List AV} (h : H[k]? = some xs) : seqOf H (.ref k) = some xs := h
theorem Qz (xs : List AV) : iterOf (.list xs) = some xs := rfl
theorem QA (xs : List AV) : iterOf (.tup xs) = some xs := rfl
theorem QB (a b : Int) : iterOf (.range a b) = some (rangeL a b) := rfl
theorem QC (a : AV) (op : CmpOp) (r : HP → R AV) (H : HP) : cmpA a [op] [r] H = bnd (r H) fun b H => bnd (lft (cmpV op a b H) H) fun c H => some (.bool c, H) := rfl
theorem QD (x y : Int) (H : HP) : cmpV .Lt (.int x) (.int y) H = some (decide (x < y)) := rfl
theorem QE (x y : Int) (H : HP) : cmpV .LtE (.int x) (.int y) H = some (decide (x ≤ y)) := rfl
theorem QF (x y : Int) (H : HP) : cmpV .Gt (.int x) (.int y) H = some (decide (y < x)) := rfl
theorem QG (x y : Int) (H : HP) : cmpV .GtE (.int x) (.int y) H = some (decide (y ≤ x)) := rfl
theorem QH (a b : AV) (H : HP) : cmpV .Eq a b H = eqV H a b := rfl
theorem QI (a b : AV) (H : HP) : cmpV .NotEq a b H = (eqV H a b).map (!·) := rfl
theorem QJ (a b : AV) (H : HP) : cmpV .In a b H = inV H a b := rfl
theorem QK (a b : AV) (H : HP) : cmpV .NotIn a b H = (inV H a b).map (!·) := rfl
theorem QL (a : AV) (H : HP) : cmpV .Is a .none H = some (isNoneA a) := rfl
theorem QM (a : AV) (H : HP) : cmpV .IsNot a .none H = some (!isNoneA a) := rfl
theorem QN : isNoneA .none = true := rfl
theorem QO (i : Int) : isNoneA (.int i) = false := rfl
theorem QP (i : List AV) : isNoneA (.tup i) = false := rfl
theorem QQ (i : List AV) : isNoneA (.list i) = false := rfl
theorem QR (i : Str) : isNoneA (.str i) = false := rfl
theorem QS (i : Bool) : isNoneA (.bool i) = false := rfl
theorem QT (b : Bool) : asBool (.bool b) = some b := rfl
theorem QU (H : HP) : boolB .And [] H = some (true, H) := rfl
theorem QV (H : HP) : boolB .Or [] H = some (false, H) := rfl
theorem QW (e : HP → R Bool) (es : List (HP → R Bool)) (H : HP) : boolB .And (e :: es) H = bnd (e H) fun b H => bif b then boolB .And es H else some (false, H) := by
  show bnd _ _ = bnd _ _
  congr 1; funext b H; cases b <;> rfl
theorem QX (e : HP → R Bool) (es : List (HP → R Bool)) (H : HP) : boolB .Or (e :: es) H = bnd (e H) fun b H => bif b then some (true, H) else boolB .Or es H := by
  show bnd _ _ = bnd _ _
  congr 1; funext b H; cases b <;> rfl
theorem QY (op : BoolOp) (e : HP → R AV) (H : HP) : boolV op [e] H = e H := rfl
theorem QZ (e e' : HP → R AV) (es : List (HP → R AV)) (H : HP) : boolV .And (e :: e' :: es) H = bnd (e H) fun v H => bnd (lft (asBool v) H) fun b H => bif b then boolV .And (e' :: es) H else some (.bool false, H) := by
  show bnd _ _ = bnd _ _
  congr 1; funext v H; congr 1; funext b H; cases b <;> rfl
theorem Q0 (e e' : HP → R AV) (es : List (HP → R AV)) (H : HP) : boolV .Or (e :: e' :: es) H = bnd (e H) fun v H => bnd (lft (asBool v) H) fun b H => bif b then some (.bool true, H) else boolV .Or (e' :: es) H := by
  show bnd _ _ = bnd _ _
  congr 1; funext v H; congr 1; funext b H; cases b <;> rfl
theorem Q8 (H : HP) : madeV true (some (.list [], H)) = some (.ref H.length, H ++ [[]]) := rfl

theorem Qo (x y : Int) (H : HP) : binV .Add (.int x) (.int y) H = some (.int (x + y)) := rfl
theorem Qp (x y : Int) (H : HP) : binV .Sub (.int x) (.int y) H = some (.int (x - y)) := rfl
theorem bin_mod {x y : Int} {H : HP} (h : 0 < y) : binV .Mod (.int x) (.int y) H = some (.int (x % y)) := by
  show (if y = 0 then none else some (AV.int (x.fmod y))) = _
  rw [if_neg (by lia), Int.fmod_eq_emod_of_nonneg _ (by lia)]
theorem bin_div {x y : Int} {H : HP} (h : 0 < y) (h' : y < 1073741824) : binV .FloorDiv (.int x) (.int y) H = some (.int (x / y)) := by
  have h1 : decide (y = 0) = false := decide_eq_false (by lia)
  have h2 : tiny y = true := decide_eq_true (by lia)
  show (if (decide (y = 0) || !tiny y) = true then none else some (AV.int (x.fdiv y))) = _
  rw [h1, h2, if_neg (by decide), Int.fdiv_eq_ediv_of_nonneg _ (by lia)]
theorem bin_mul {x y : Int} {H : HP} (h : small x = true) (h' : small y = true) : binV .Mult (.int x) (.int y) H = some (.int (x * y)) := by
  show (if (small x && small y) = true then _ else _) = _
  rw [h, h']; rfl
theorem small_of {x : Int} (h : -4611686018427387903 ≤ x) (h' : x ≤ 4611686018427387903) : small x = true := by
  unfold small intMax; exact decide_eq_true ⟨h, h'⟩

theorem idx_of {n : Nat} {i : Int} (h : 0 ≤ i) (h' : i < (n : Int)) : idx n i = some i.toNat := by simp [idx, h, h']

theorem eqV_leaf (H : HP) (a b : AV) (h1 : okL a = true) (h2 : okL b = true) (f1 : fz H a = some a) (f2 : fz H b = some b) (d1 : okD dMax a = okL a) (d2 : okD dMax b = okL b) : eqV H a b = some (PyData.eqv (toPy a) (toPy b)) := by
  unfold eqV
  rw [f1, f2]
  show (if (okD dMax a && okD dMax b) = true then _ else _) = _
  rw [d1, d2, h1, h2]; rfl
theorem Zh (H : HP) (a b : Int) : eqV H (.int a) (.int b) = some (decide (a = b)) := by
  rw [eqV_leaf H _ _ rfl rfl rfl rfl rfl rfl]
  show some (a == b) = _
  by_cases h : a = b <;> simp [h]
theorem Zj (H : HP) (a b : Bool) : eqV H (.bool a) (.bool b) = some (decide (a = b)) := by
  cases a <;> cases b <;> rfl
theorem strOk_of (a : String) : PyData.strOk (Str.ofString a) = true := by
  rw [Str.ofString_eq_toList]
  simp only [PyData.strOk]
  rw [Array.all_eq_true]
  intro i hi
  simp only [List.size_toArray, List.length_map] at hi
  simp only [List.getElem_toArray, List.getElem_map, decide_eq_true_eq]
  have := (a.toList[i]).valid
  have h2 : (a.toList[i]).toNat = (a.toList[i]).val.toNat := rfl
  rw [h2]
  rcases this with q | q
  · have : (a.toList[i]).val.toNat < 0xd800 := q
    lia
  · exact q.2
theorem Zi (H : HP) (a b : String) : eqV H (.str (Str.ofString a)) (.str (Str.ofString b)) = some (decide (a = b)) := by
  rw [eqV_leaf H (.str (Str.ofString a)) (.str (Str.ofString b)) (strOk_of a) (strOk_of b) rfl rfl rfl rfl]
  show some (Str.ofString a == Str.ofString b) = _
  by_cases h : a = b
  · subst h; simp
  · have : ¬ Str.ofString a = Str.ofString b := by rw [Qn]; exact h
    simp [h, this]
theorem in_any (a : String) : ∀ bs : List String, ((toPys (bs.map fun b => AV.str (Str.ofString b))).any fun y => PyData.eqv y (toPy (.str (Str.ofString a)))) = bs.any fun b => decide (b = a)
  | [] => rfl
  | b :: bs => by
    show ((Str.ofString b == Str.ofString a) || _) = (decide (b = a) || _)
    rw [in_any a bs]
    congr 1
    by_cases h : b = a
    · subst h; simp
    · have : ¬ Str.ofString b = Str.ofString a := by rw [Qn]; exact h
      simp [h, this]
theorem in_strs (H : HP) (a : String) (bs : List String) : inV H (.str (Str.ofString a)) (.list (bs.map fun b => .str (Str.ofString b))) = some (bs.any fun b => decide (b = a)) := by
  have h1 : okD dMax (.list (bs.map fun b => AV.str (Str.ofString b))) = true := by
    refine List.all_eq_true.mpr fun x m => ?_
    obtain ⟨b, _, rfl⟩ := List.mem_map.mp m
    exact strOk_of b
  have h2 : okD dMax (.str (Str.ofString a)) = true := strOk_of a
  show (if (okD dMax (.list (bs.map fun b => AV.str (Str.ofString b))) && okD dMax (.str (Str.ofString a))) = true then _ else _) = _
  rw [h1, h2, ← in_any]; rfl
theorem in_tup (H : HP) (a : AV) (xs : List AV) : inV H a (.tup xs) = inV H a (.list xs) := rfl

theorem Q1 {H : HP} {ts : List Ty} (xs : List AV) : isAny H (.tup xs) ts = some (ts.any isTup) := rfl
theorem Q2 {H : HP} {ts : List Ty} (xs : List AV) : isAny H (.list xs) ts = some (ts.any isLis) := rfl
theorem Q3 {H : HP} {ts : List Ty} (xs : Int) : isAny H (.int xs) ts = some (ts.any isInt) := rfl
theorem Q4 {H : HP} {ts : List Ty} (xs : Str) : isAny H (.str xs) ts = some (ts.any isStr) := rfl
theorem Q5 {H : HP} {ts : List Ty} : isAny H .none ts = some (ts.any fun _ => false) := rfl

theorem getIdx_of {H : HP} {o : AV} {xs : List AV} {i : Int} (h : itemsOf H o = some xs) (h0 : 0 ≤ i) (h1 : i < (xs.length : Int)) : getIdx H o (.int i) = xs[i.toNat]? := by
  show (match itemsOf H o with | some xs => (match idx xs.length i with | some j => xs[j]? | none => none) | none => none) = _
  rw [h]
  show (match idx xs.length i with | some j => xs[j]? | none => none) = _
  rw [idx_of h0 h1]
theorem getIdx_nat {H : HP} {o : AV} {xs : List AV} {i : Nat} {v : AV} (h : itemsOf H o = some xs) (h1 : xs[i]? = some v) : getIdx H o (.int (i : Int)) = some v := by
  have := (List.getElem?_eq_some_iff.mp h1).1
  rw [getIdx_of h (by lia) (by lia)]; simpa using h1
theorem Q9 (H : HP) (x0 : AV) (xs : List AV) : getIdx H (.tup (x0 :: xs)) (.int 0) = some x0 := getIdx_nat (i := 0) rfl rfl
theorem Za (H : HP) (x0 x1 : AV) (xs : List AV) : getIdx H (.tup (x0 :: x1 :: xs)) (.int 1) = some x1 := getIdx_nat (i := 1) rfl rfl
theorem Zb (H : HP) (x0 x1 x2 : AV) (xs : List AV) : getIdx H (.tup (x0 :: x1 :: x2 :: xs)) (.int 2) = some x2 := getIdx_nat (i := 2) rfl rfl
theorem Zc (H : HP) (x0 x1 x2 x3 : AV) (xs : List AV) : getIdx H (.tup (x0 :: x1 :: x2 :: x3 :: xs)) (.int 3) = some x3 := getIdx_nat (i := 3) rfl rfl
theorem Zd (H : HP) (x0 : AV) (xs : List AV) : getIdx H (.list (x0 :: xs)) (.int 0) = some x0 := getIdx_nat (i := 0) rfl rfl
theorem Ze (H : HP) (x0 x1 : AV) (xs : List AV) : getIdx H (.list (x0 :: x1 :: xs)) (.int 1) = some x1 := getIdx_nat (i := 1) rfl rfl
theorem Zf (H : HP) (x0 x1 x2 : AV) (xs : List AV) : getIdx H (.list (x0 :: x1 :: x2 :: xs)) (.int 2) = some x2 := getIdx_nat (i := 2) rfl rfl
theorem Zg (H : HP) (x0 x1 x2 x3 : AV) (xs : List AV) : getIdx H (.list (x0 :: x1 :: x2 :: x3 :: xs)) (.int 3) = some x3 := getIdx_nat (i := 3) rfl rfl

/-! ### going through -/
theorem stop_true {β : Type} {v : AV} {xs : List AV} {H : HP} {k : R β} (h : still v xs H) : stop v xs H k = k := by unfold stop; rw [if_pos h]
theorem still_of {src : AV} {xs : List AV} (h : iterOf src = some xs) (H : HP) : still src xs H := by cases src <;> first | trivial | cases h
theorem iterC_of {src : AV} {xs : List AV} (h : iterOf src = some xs) (H : HP) : iterC H src = some xs := by cases src <;> first | exact h | cases h
theorem still_C {src : AV} {xs : List AV} {H : HP} (h : iterC H src = some xs) : still src xs H := by cases src <;> first | trivial | exact h
theorem compL_map {elt : Loc → HP → R AV} {x : Str} {ρ : Loc} {H : HP} {src : AV} {xs : List AV} (f : AV → AV) (hs : still src xs H) : ∀ {vs : List AV}, (∀ v ∈ vs, elt (upd ρ x v) H = some (f v, H)) → compL src xs tt0 elt x ρ vs H = some (vs.map f, H)
  | [], _ => stop_true hs
  | v :: vs, he => by
    refine (stop_true hs).trans ?_
    show bnd (elt (upd ρ x v) H) _ = _
    rw [he v List.mem_cons_self]
    show bnd (compL src xs tt0 elt x ρ vs H) _ = _
    rw [compL_map f hs (fun u m => he u (List.mem_cons_of_mem _ m))]
    rfl
theorem compR_mapC {elt : Loc → HP → R AV} {x : Str} {ρ : Loc} {it : HP → R AV} {H : HP} {src : AV} {xs : List AV} (f : AV → AV) (hi : it H = some (src, H)) (hx : iterC H src = some xs) (hl : xs.length ≤ sizeMax)
    (he : ∀ v ∈ xs, elt (upd ρ x v) H = some (f v, H)) : compR tt0 elt x ρ it H = some (xs.map f, H) := by
  simp only [compR, hi, Qa, hx, Qb, hl, if_true]
  exact compL_map f (still_C hx) he
theorem compR_map {elt : Loc → HP → R AV} {x : Str} {ρ : Loc} {it : HP → R AV} {H : HP} {src : AV} {xs : List AV} (f : AV → AV) (hi : it H = some (src, H)) (hx : iterOf src = some xs) (hl : xs.length ≤ sizeMax)
    (he : ∀ v ∈ xs, elt (upd ρ x v) H = some (f v, H)) : compR tt0 elt x ρ it H = some (xs.map f, H) := compR_mapC f hi (iterC_of hx H) hl he
theorem forL_inv {body : Loc → HP → RS} {tgt : AV → Loc → Option Loc} {xs : List AV} (P : Nat → Loc → HP → Prop) (step : ∀ i v ρ H, xs[i]? = some v → P i ρ H → ∃ ρ1 ρ' H', tgt v ρ = some ρ1 ∧ body ρ1 H = some (.next, ρ', H') ∧ P (i + 1) ρ' H') :
    ∀ {vs : List AV} {i : Nat} {ρ : Loc} {H : HP}, vs = xs.drop i → P i ρ H → ∃ ρ' H', forL body tgt vs ρ H = some (.next, ρ', H') ∧ P (i + vs.length) ρ' H'
  | [], i, ρ, H, _, h => ⟨ρ, H, rfl, h⟩
  | v :: vs, i, ρ, H, hv, h => by
    have hi : i < xs.length := by
      rcases Nat.lt_or_ge i xs.length with q | q
      · exact q
      · rw [List.drop_eq_nil_of_le q] at hv; cases hv
    rw [List.drop_eq_getElem_cons hi] at hv
    injection hv with hv1 hv2
    obtain ⟨ρ1, ρ', H', e1, e2, e4⟩ := step i v ρ H (by rw [List.getElem?_eq_getElem hi, hv1]) h
    obtain ⟨ρ2, H2, e5, e6⟩ := forL_inv P step hv2 e4
    refine ⟨ρ2, H2, ?_, ?_⟩
    · simp only [forL, e1, e2, Qc, e5]
    · rw [List.length_cons, Nat.add_comm vs.length, ← Nat.add_assoc]; exact e6
theorem forR_inv {body : Loc → HP → RS} {tgt : AV → Loc → Option Loc} {it : HP → R AV} {ρ : Loc} {H H1 : HP} {src : AV} {xs : List AV} (P : Nat → Loc → HP → Prop) (hi : it H = some (src, H1)) (hx : iterOf src = some xs) (h0 : P 0 ρ H1)
    (step : ∀ i v ρ H, xs[i]? = some v → P i ρ H → ∃ ρ1 ρ' H', tgt v ρ = some ρ1 ∧ body ρ1 H = some (.next, ρ', H') ∧ P (i + 1) ρ' H') : ∃ ρ' H', forR body tgt it ρ H = some (.next, ρ', H') ∧ P xs.length ρ' H' := by
  obtain ⟨ρ', H', e, p⟩ := forL_inv P step (vs := xs) (i := 0) rfl h0
  rw [Nat.zero_add] at p
  exact ⟨ρ', H', by simp only [forR, hi, Qa, hx, Qb, e], p⟩

noncomputable def iL (l : List Int) : AV := .list (l.map AV.int)
noncomputable def iT (l : List Int) : AV := .tup (l.map AV.int)
theorem eqV_str_self (H : HP) (s : Str) (h : PyData.strOk s = true) : eqV H (.str s) (.str s) = some true := by
  rw [eqV_leaf H (.str s) (.str s) h h rfl rfl rfl rfl]
  show some (s == s) = _
  simp
theorem boolsOf_const (xs : List AV) : boolsOf (xs.map fun _ => AV.bool true) = some (xs.map fun _ => true) := by
  induction xs with
  | nil => rfl
  | cons a r ih => simp only [List.map_cons, boolsOf, ih, asBool, Option.map_some]
theorem all_const (xs : List AV) : (xs.map fun _ => true).all id = true := by simp
theorem small_len {n : Nat} (h : n ≤ sizeMax) : small (n : Int) = true := by
  unfold sizeMax at h
  exact small_of (by lia) (by lia)
theorem rangeL_nat (n : Nat) : rangeL 0 (n : Int) = (List.range n).map fun (i : Nat) => AV.int (i : Int) := by
  simp [rangeL]
theorem rangeL_mem {n : Nat} {v : AV} (h : v ∈ rangeL 0 (n : Int)) : ∃ i : Nat, i < n ∧ v = .int (i : Int) := by
  rw [rangeL_nat] at h
  obtain ⟨i, hi, rfl⟩ := List.mem_map.mp h
  exact ⟨i, List.mem_range.mp hi, rfl⟩
theorem rangeL_len (n : Nat) : (rangeL 0 (n : Int)).length = n := by rw [rangeL_nat]; simp

/-- values that a law's own compare takes: no bool, nothing that changes -/
noncomputable def okN : AV → Bool
  | .none => true
  | .int _ => true
  | .str s => PyData.strOk s
  | _ => false
noncomputable def okA : Nat → AV → Bool
  | 0, v => okN v
  | n + 1, v => match v with
    | .tup xs => decide (xs.length ≤ sizeMax) && xs.all (okA n)
    | .list xs => decide (xs.length ≤ sizeMax) && xs.all (okA n)
    | v => okN v
end Mine

namespace Mine
open PySem PyProof.Rows

noncomputable def refsFrom (b n : Nat) : List AV := (List.range n).map fun i => AV.ref (b + i)
theorem refsFrom_len (b n : Nat) : (refsFrom b n).length = n := by simp [refsFrom]
theorem refsFrom_get {b n i : Nat} (h : i < n) : (refsFrom b n)[i]? = some (.ref (b + i)) := by simp [refsFrom, h]
theorem refsFrom_succ (b n : Nat) : refsFrom b (n + 1) = .ref b :: refsFrom (b + 1) n := by
  simp only [refsFrom, List.range_succ_eq_map, List.map_cons, List.map_map]
  congr 1
  apply List.map_congr_left
  intro i _
  simp only [Function.comp]
  congr 1
  lia

/-- a comprehension whose items are new lists -/
theorem compL_new {elt : Loc → HP → R AV} {x : Str} {ρ : Loc} {src : AV} {xs : List AV} (g : AV → List AV) (hs : ∀ H, still src xs H) : ∀ {vs : List AV} {H : HP}, (∀ v ∈ vs, ∀ H, elt (upd ρ x v) H = some (.ref H.length, H ++ [g v])) →
    compL src xs tt0 elt x ρ vs H = some (refsFrom H.length vs.length, H ++ vs.map g)
  | [], H, _ => by rw [compL, stop_true (hs _)]; simp [refsFrom]
  | v :: vs, H, he => by
    refine (stop_true (hs _)).trans ?_
    show bnd (elt (upd ρ x v) H) _ = _
    rw [he v List.mem_cons_self]
    show bnd (compL src xs tt0 elt x ρ vs (H ++ [g v])) _ = _
    rw [compL_new g hs fun u m => he u (List.mem_cons_of_mem _ m)]
    simp only [Qa, List.length_append, List.length_cons, List.length_nil, Nat.zero_add, List.map_cons]
    rw [refsFrom_succ]
    simp
theorem compR_newL {elt : Loc → HP → R AV} {src : AV} {xs : List AV} {x : Str} {ρ : Loc} {it : HP → R AV} {H : HP} (g : AV → List AV) (hi : it H = some (src, H)) (hx : iterOf src = some xs) (hl : xs.length ≤ sizeMax)
    (he : ∀ v ∈ xs, ∀ H, elt (upd ρ x v) H = some (.ref H.length, H ++ [g v])) :
    compR tt0 elt x ρ it H = some (refsFrom H.length xs.length, H ++ xs.map g) := by
  simp only [compR, hi, Qa, iterC_of hx, Qb, hl, if_true]
  exact compL_new g (still_of hx) he
theorem compR_new {elt : Loc → HP → R AV} {src : AV} {xs : List AV} {x : Str} {ρ : Loc} {it : HP → R AV} {H : HP} (hi : it H = some (src, H)) (hx : iterOf src = some xs) (hl : xs.length ≤ sizeMax)
    (he : ∀ v H, elt (upd ρ x v) H = some (.ref H.length, H ++ [[]])) :
    compR tt0 elt x ρ it H = some (refsFrom H.length xs.length, H ++ List.replicate xs.length []) := by
  have := compR_newL (elt := elt) (x := x) (ρ := ρ) (fun _ => []) hi hx hl fun v _ => he v
  rw [this]; simp [List.map_const']

/-! ### a table of lists in the heap -/
noncomputable def rowO (l : List Int) : List AV := l.map AV.int
/-- rows, and behind them the list of their references -/
noncomputable def tab (H : HP) (rows : List (List Int)) : HP := H ++ rows.map rowO ++ [refsFrom H.length rows.length]
theorem tab_len (H : HP) (rows : List (List Int)) : (tab H rows).length = H.length + rows.length + 1 := by simp [tab]; lia
theorem tab_row {H T : HP} {rows : List (List Int)} {j : Nat} {row : List Int} (h : rows[j]? = some row) : (tab H rows ++ T)[H.length + j]? = some (rowO row) := by
  have hj := (List.getElem?_eq_some_iff.mp h).1
  rw [List.getElem?_append_left (by rw [tab_len]; lia)]
  unfold tab
  rw [List.getElem?_append_left (by simp; lia), List.getElem?_append_right (by lia)]
  simp [h]
theorem tab_list {H T : HP} {rows : List (List Int)} : (tab H rows ++ T)[H.length + rows.length]? = some (refsFrom H.length rows.length) := by
  rw [List.getElem?_append_left (by rw [tab_len]; lia)]
  unfold tab
  rw [List.getElem?_append_right (by simp)]
  simp
theorem tab_set {H T : HP} {rows : List (List Int)} {j : Nat} {row : List Int} (h : j < rows.length) : setAO (tab H rows ++ T) (H.length + j) (rowO row) = tab H (rows.set j row) ++ T := by
  unfold setAO tab
  rw [List.set_append_left _ _ (by simp; lia), List.set_append_left _ _ (by simp; lia), List.set_append_right _ _ (by lia)]
  simp [List.map_set]
theorem rsvs_ints {g : Nat → Option AV} : ∀ (l : List Int), rsvs g (l.map AV.int) = some (l.map AV.int)
  | [] => rfl
  | a :: r => by
    show (rsvs g (r.map AV.int)).map _ = _
    rw [rsvs_ints r]; rfl
theorem hop_row {n k : Nat} {H : HP} {l : List Int} (h : H[k]? = some (rowO l)) : hop H (n + 1) k = some (iL l) := by
  simp only [hop, h, rowO, rsvs_ints]; rfl
theorem rsvs_refs {n : Nat} {H : HP} : ∀ {lo : Nat} {rows : List (List Int)}, (∀ j row, rows[j]? = some row → H[lo + j]? = some (rowO row)) → rsvs (hop H (n + 1)) (refsFrom lo rows.length) = some (rows.map iL)
  | lo, [], _ => rfl
  | lo, r :: rows, h => by
    rw [List.length_cons, refsFrom_succ]
    have h1 : rsv (hop H (n + 1)) (.ref lo) = some (iL r) := hop_row (k := lo) (h 0 r rfl)
    simp only [rsvs, h1]
    rw [rsvs_refs (lo := lo + 1) (rows := rows) (fun j row e => by
      have := h (j + 1) row (by simpa using e)
      rw [show lo + 1 + j = lo + (j + 1) by lia]; exact this)]
    rfl
theorem fz_tab {n : Nat} {H T : HP} {rows : List (List Int)} : hop (tab H rows ++ T) (n + 2) (H.length + rows.length) = some (.list (rows.map iL)) := by
  have := rsvs_refs (n := n) (H := tab H rows ++ T) (lo := H.length) (rows := rows) (fun j row e => tab_row e)
  rw [hop, tab_list]
  show (rsvs (hop (tab H rows ++ T) (n + 1)) _).map _ = _
  rw [this]; rfl

/-! ### equal data -/
mutual
theorem eqv_refl' : ∀ {n : Nat} {v : AV}, okD n v = true → PyData.eqv (toPy v) (toPy v) = true
  | _, .none, _ => rfl
  | _, .bool b, _ => by show (b == b) = true; simp
  | _, .int b, _ => by show (b == b) = true; simp
  | _, .str b, _ => by show (b == b) = true; simp
  | n + 1, .tup xs, h => eqvs_refl' (n := n) h
  | n + 1, .list xs, h => eqvs_refl' (n := n) h
  | 0, .tup xs, h => Bool.noConfusion h
  | 0, .list xs, h => Bool.noConfusion h
  | n, .range _ _, h => by cases n <;> exact Bool.noConfusion h
  | n, .ref _, h => by cases n <;> exact Bool.noConfusion h
  | n, .dct _, h => by cases n <;> exact Bool.noConfusion h
  | n, .obj _, h => by cases n <;> exact Bool.noConfusion h
theorem eqvs_refl' : ∀ {n : Nat} {vs : List AV}, vs.all (okD n) = true → PyData.eqvAll (toPys vs) (toPys vs) = true
  | _, [], _ => rfl
  | n, v :: vs, h => by
    obtain ⟨h1, h2⟩ := Bool.and_eq_true_iff.mp h
    exact Bool.and_eq_true_iff.mpr ⟨eqv_refl' h1, eqvs_refl' h2⟩
end
theorem eqV_same {H : HP} {a b v : AV} (ha : fz H a = some v) (hb : fz H b = some v) (ok : okD dMax v = true) : eqV H a b = some true := by
  unfold eqV
  rw [ha, hb]
  show (if (okD dMax v && okD dMax v) = true then _ else _) = _
  rw [ok, eqv_refl' ok]; rfl
theorem okD_iL {n : Nat} (l : List Int) : okD (n + 1) (iL l) = true := by
  refine List.all_eq_true.mpr fun x m => ?_
  obtain ⟨i, _, rfl⟩ := List.mem_map.mp m
  cases n <;> rfl
theorem okD_rows {n : Nat} (rows : List (List Int)) : okD (n + 2) (.list (rows.map iL)) = true := by
  refine List.all_eq_true.mpr fun x m => ?_
  obtain ⟨i, _, rfl⟩ := List.mem_map.mp m
  exact okD_iL i
mutual
theorem rsv_frozen {g : Nat → Option AV} : ∀ {v : AV}, v.noRef = true → rsv g v = some v
  | .none, _ => rfl
  | .bool _, _ => rfl
  | .int _, _ => rfl
  | .str _, _ => rfl
  | .range _ _, _ => rfl
  | .tup xs, h => by show (rsvs g xs).map _ = _; rw [rsvs_frozen h]; rfl
  | .list xs, h => by show (rsvs g xs).map _ = _; rw [rsvs_frozen h]; rfl
  | .ref _, h => Bool.noConfusion h
  | .dct _, h => Bool.noConfusion h
  | .obj _, _ => rfl
theorem rsvs_frozen {g : Nat → Option AV} : ∀ {v : List AV}, noRefs v = true → rsvs g v = some v
  | [], _ => rfl
  | a :: r, h => by
    obtain ⟨h1, h2⟩ := Bool.and_eq_true_iff.mp h
    simp only [rsvs, rsv_frozen h1, rsvs_frozen h2, Option.map_some]
end
theorem noRefs_iff {xs : List AV} : noRefs xs = true ↔ ∀ x ∈ xs, x.noRef = true := by
  induction xs with
  | nil => simp [noRefs]
  | cons a r ih => simp [noRefs, ih]
theorem noRef_iL (l : List Int) : (iL l).noRef = true := by
  simp only [iL, AV.noRef, noRefs_iff]
  intro x m
  obtain ⟨i, _, rfl⟩ := List.mem_map.mp m
  rfl
theorem noRef_iT (l : List Int) : (iT l).noRef = true := by
  simp only [iT, AV.noRef, noRefs_iff]
  intro x m
  obtain ⟨i, _, rfl⟩ := List.mem_map.mp m
  rfl
theorem noRef_rows (rows : List (List Int)) : (AV.list (rows.map iL)).noRef = true := by
  simp only [AV.noRef, noRefs_iff]
  intro x m
  obtain ⟨i, _, rfl⟩ := List.mem_map.mp m
  exact noRef_iL i
theorem okA_iT {n : Nat} {l : List Int} (h : l.length ≤ sizeMax) : okA (n + 1) (iT l) = true := by
  refine Bool.and_eq_true_iff.mpr ⟨decide_eq_true (by rw [List.length_map]; exact h), List.all_eq_true.mpr fun x m => ?_⟩
  obtain ⟨i, _, rfl⟩ := List.mem_map.mp m
  cases n <;> rfl

theorem seqOf_items {H : HP} {v : AV} {xs : List AV} (h : seqOf H v = some xs) : itemsOf H v = some xs := by
  cases v with
  | list ys => exact h
  | ref k => exact h
  | _ => cases h
theorem tab_tab (H : HP) (b s : List (List Int)) : tab (tab H b) s = tab H b ++ (s.map rowO ++ [refsFrom (tab H b).length s.length]) := by
  rw [tab, List.append_assoc]
theorem tabs_row {H : HP} {b s : List (List Int)} {j : Nat} {row : List Int} (h : b[j]? = some row) : (tab (tab H b) s)[H.length + j]? = some (rowO row) := by rw [tab_tab]; exact tab_row h
theorem tabs_list {H : HP} {b s : List (List Int)} : (tab (tab H b) s)[H.length + b.length]? = some (refsFrom H.length b.length) := by rw [tab_tab]; exact tab_list
theorem tab_row0 {H : HP} {s : List (List Int)} {j : Nat} {row : List Int} (h : s[j]? = some row) : (tab H s)[H.length + j]? = some (rowO row) := by
  have := tab_row (H := H) (T := []) h; rwa [List.append_nil] at this
theorem tab_list0 {H : HP} {s : List (List Int)} : (tab H s)[H.length + s.length]? = some (refsFrom H.length s.length) := by
  have := tab_list (H := H) (T := []) (rows := s); rwa [List.append_nil] at this
theorem tab_set0 {H : HP} {rows : List (List Int)} {j : Nat} {row : List Int} (h : j < rows.length) : setAO (tab H rows) (H.length + j) (rowO row) = tab H (rows.set j row) := by
  have := tab_set (H := H) (T := []) (row := row) h; rwa [List.append_nil, List.append_nil] at this
theorem tabs_set {H : HP} {b s : List (List Int)} {j : Nat} {row : List Int} (h : j < b.length) : setAO (tab (tab H b) s) (H.length + j) (rowO row) = tab (tab H (b.set j row)) s := by
  rw [tab_tab, tab_set h, tab_tab]
  simp [tab_len]

theorem lmD_ok {m : LM} {k : Nat} {vs xs ys : List AV} {H : HP} (hk : H[k]? = some xs) {u : AV} (h : lmV H m xs vs = some (u, ys)) : lmD m (.ref k) vs H = some (u, setAO H k ys) := by
  unfold lmD; simp only [hk, h]
theorem meth_append {base k : Nat} {o : HP → R AV} {es : List (HP → R AV)} {H : HP} {l : List Int} {t : Int} (ho : o H = some (.ref k, H)) (he : evA es H = some ([.int t], H)) (hk : H[k]? = some (rowO l)) (hl : l.length < sizeMax) :
    methQ base .append o es H = some (.none, setAO H k (rowO (l ++ [t]))) := by
  have h : lmV H .append (rowO l) [.int t] = some (.none, rowO (l ++ [t])) := by
    show (if (rowO l).length < sizeMax then _ else _) = _
    rw [if_pos (by rw [rowO, List.length_map]; exact hl)]; simp [rowO]
  have hs : isLst H (.ref k) = true := by show (H[k]?).isSome = true; rw [hk]; rfl
  simp only [methQ, ho, Qa, hs, if_true, he, lmD_ok hk h]
theorem meth_insert {base k : Nat} {o : HP → R AV} {es : List (HP → R AV)} {H : HP} {l : List Int} {t : Int} (ho : o H = some (.ref k, H)) (he : evA es H = some ([.int 0, .int t], H)) (hk : H[k]? = some (rowO l)) (hl : l.length < sizeMax) :
    methQ base .insert o es H = some (.none, setAO H k (rowO (t :: l))) := by
  have h : lmV H .insert (rowO l) [.int 0, .int t] = some (.none, rowO (t :: l)) := by
    show (if (decide ((0 : Int) = 0) && decide ((rowO l).length < sizeMax)) = true then _ else _) = _
    rw [decide_eq_true (by rw [rowO, List.length_map]; exact hl : (rowO l).length < sizeMax)]; rfl
  have hs : isLst H (.ref k) = true := by show (H[k]?).isSome = true; rw [hk]; rfl
  simp only [methQ, ho, Qa, hs, if_true, he, lmD_ok hk h]

theorem flatten_set {x : Int} : ∀ {b : List (List Int)} {j : Nat} {row row' : List Int}, b[j]? = some row → row'.Perm (x :: row) → (b.set j row').flatten.Perm (x :: b.flatten)
  | [], j, row, row', h, _ => by simp at h
  | r :: b, 0, row, row', h, p => by
    simp at h; subst h
    simp only [List.set_cons_zero, List.flatten_cons]
    exact (p.append_right _)
  | r :: b, j + 1, row, row', h, p => by
    simp only [List.set_cons_succ, List.flatten_cons]
    have ih := flatten_set (b := b) (j := j) (by simpa using h) p
    exact (ih.append_left r).trans (List.perm_middle)

/-- what the laws' plans are -/
structure PlanOk (size many i : Nat) (brood starts : List (List Int)) : Prop where
  lb : brood.length = size
  ls : starts.length = many
  br : ∀ (j : Nat) (row : List Int), brood[j]? = some row → row.length ≤ i ∧ ∀ t ∈ row, (j : Int) < t ∧ t < (i : Int)
  st : ∀ (j : Nat) (row : List Int), starts[j]? = some row → row.length ≤ i ∧ ∀ t ∈ row, 0 ≤ t ∧ t < (i : Int)
  nd : (brood.flatten ++ starts.flatten).Nodup
theorem PlanOk.mem {size many i : Nat} {brood starts : List (List Int)} (p : PlanOk size many i brood starts) : ∀ t ∈ brood.flatten ++ starts.flatten, t < (i : Int) := by
  intro t m
  rcases List.mem_append.mp m with m | m
  · obtain ⟨row, hr, ht⟩ := List.mem_flatten.mp m
    obtain ⟨j, hj, e⟩ := List.mem_iff_getElem.mp hr
    exact ((p.br j row (by rw [List.getElem?_eq_getElem hj, e])).2 t ht).2
  · obtain ⟨row, hr, ht⟩ := List.mem_flatten.mp m
    obtain ⟨j, hj, e⟩ := List.mem_iff_getElem.mp hr
    exact ((p.st j row (by rw [List.getElem?_eq_getElem hj, e])).2 t ht).2
theorem PlanOk.skip {size many i : Nat} {brood starts : List (List Int)} (p : PlanOk size many i brood starts) : PlanOk size many (i + 1) brood starts :=
  ⟨p.lb, p.ls, fun j row e => ⟨by have := (p.br j row e).1; lia, fun t m => by have := (p.br j row e).2 t m; lia⟩, fun j row e => ⟨by have := (p.st j row e).1; lia, fun t m => by have := (p.st j row e).2 t m; lia⟩, p.nd⟩
theorem PlanOk.brood {size many i j : Nat} {brood starts : List (List Int)} {row row' : List Int} (p : PlanOk size many i brood starts) (e : brood[j]? = some row) (hj : j < i) (hp : row'.Perm ((i : Int) :: row)) : PlanOk size many (i + 1) (brood.set j row') starts where
  lb := by simp [p.lb]
  ls := p.ls
  br := fun j' r e' => by
    rw [List.getElem?_set] at e'
    split at e'
    · rename_i q
      split at e'
      · cases e'
        subst q
        have h := p.br j row e
        refine ⟨by rw [hp.length_eq]; simp; exact h.1, fun t m => ?_⟩
        rcases List.mem_cons.mp (hp.mem_iff.mp m) with rfl | m
        · lia
        · have := h.2 t m; lia
      · cases e'
    · have h := p.br j' r e'
      exact ⟨by lia, fun t m => by have := h.2 t m; lia⟩
  st := fun j' r e' => by have h := p.st j' r e'; exact ⟨by lia, fun t m => by have := h.2 t m; lia⟩
  nd := by
    refine (((flatten_set e hp).append_right _).nodup_iff).mpr ?_
    refine List.nodup_cons.mpr ⟨fun m => ?_, p.nd⟩
    have := p.mem _ m; lia
theorem PlanOk.starts {size many i j : Nat} {brood starts : List (List Int)} {row row' : List Int} (p : PlanOk size many i brood starts) (e : starts[j]? = some row) (hp : row'.Perm ((i : Int) :: row)) : PlanOk size many (i + 1) brood (starts.set j row') where
  lb := p.lb
  ls := by simp [p.ls]
  br := fun j' r e' => by have h := p.br j' r e'; exact ⟨by lia, fun t m => by have := h.2 t m; lia⟩
  st := fun j' r e' => by
    rw [List.getElem?_set] at e'
    split at e'
    · rename_i q
      split at e'
      · cases e'
        subst q
        have h := p.st j row e
        refine ⟨by rw [hp.length_eq]; simp; exact h.1, fun t m => ?_⟩
        rcases List.mem_cons.mp (hp.mem_iff.mp m) with rfl | m
        · lia
        · have := h.2 t m; lia
      · cases e'
    · have h := p.st j' r e'
      exact ⟨by lia, fun t m => by have := h.2 t m; lia⟩
  nd := by
    refine ((((flatten_set e hp).append_left brood.flatten).trans List.perm_middle).nodup_iff).mpr ?_
    refine List.nodup_cons.mpr ⟨fun m => ?_, p.nd⟩
    have := p.mem _ m; lia

noncomputable def cellAt (ns : List Int) (k : Int) : Int := if k < (ns.length : Int) then ns.getD k.toNat 0 else 0
theorem Q6 (ys : List AV) (H : HP) : frozenL (some (ys, H)) = some (.list ys, H) := rfl
theorem Q7 (ys : List AV) (H : HP) : madeL (some (ys, H)) = some (.ref H.length, H ++ [ys]) := rfl
theorem szOf {n : Nat} (h : n ≤ 1000000) : n ≤ sizeMax := Nat.le_trans h (by decide)
theorem sz0 : (0 ≤ sizeMax) = True := by simp
theorem sz1 : (1 ≤ sizeMax) = True := by simp [sizeMax]
theorem sz2 : (2 ≤ sizeMax) = True := by simp [sizeMax]
theorem sz3 : (3 ≤ sizeMax) = True := by simp [sizeMax]
theorem sz4 : (4 ≤ sizeMax) = True := by simp [sizeMax]
theorem sz5 : (5 ≤ sizeMax) = True := by simp [sizeMax]
end Mine

set_option maxRecDepth 100000
set_option maxHeartbeats 8000000
namespace Mine
open PySem PyProof.Rows

noncomputable def loopsN : Nat := 100000
noncomputable def excT : List (Str × Addr) := [("YardError", 24), ("TooMany", 37), ("NoCrew", 49), ("NoTask", 61), ("Early", 73), ("Twice", 85), ("NoWorker", 97), ("NoStep", 109)]
noncomputable def subT (D : Addr) (y : Str) : Bool := y == ("YardError" : Str) || (y == ("ValueError" : Str) || excT.any fun e => e.1 == y && e.2 == D)
noncomputable def objR (r : R Addr) : R AV := match r with | some (D, H) => some (AV.obj D, H) | none => none
noncomputable def CC : Cfg := { fns := recsOf PySem.Challenge.pw_uf040021_01, muts := [("_law_plan_by", "_law_brood"), ("_law_plan_by", "_law_starts"), ("checked", "seen"), ("checked", "return"), ("_law_wrong", "_law_seen")], frz := ["_law_plan_by"], loops := loopsN, exc := excT, sub := subT, gis := [("MOST_TASKS", 200), ("MOST_WORKERS", 12)] }

noncomputable def s_need_task_k1 (Φ : Phi) (base : Nat) (ρ : Loc) (H : HP) : RS :=
  sq (/- no form: Raise -/ none) nxt

noncomputable def s_need_task_body (Φ : Phi) (base : Nat) (ρ : Loc) (H : HP) : RS :=
  sq (iteS (boolB .Or [(fun H => tob (bnd (lkp ρ "number" H) (fun a H => cmpA a [.Lt] [(fun H => some (AV.int 0, H))] H))), (fun H => tob (bnd (lkp ρ "number" H) (fun a H => cmpA a [.GtE] [(fun H => lkp ρ "many" H)] H)))] H) (s_need_task_k1 Φ base ρ) (nxt ρ)) nxt

noncomputable def s_need_task (Φ : Phi) (base : Nat) (anumber amany : AV) (H : HP) : R AV :=
  finR (s_need_task_body Φ base (upd (upd locNil "number" anumber) "many" amany) H)

theorem g_need_task (n base : Nat) (anumber amany : AV) (H : HP) : callF CC (n+1) base "need_task" [anumber, amany] H = s_need_task (callF CC n) base anumber amany H := by kernel_rfl

noncomputable def s_need_task_x2 (Φ : Phi) (base : Nat) (ρ : Loc) (H : HP) : R Addr :=
  rzq (/- no form: Raise -/ none) (fun _ _ => none) (some (61, H))

noncomputable def s_need_task_rz (Φ : Phi) (base : Nat) (ρ : Loc) (H : HP) : R Addr :=
  rzq (iteS (boolB .Or [(fun H => tob (bnd (lkp ρ "number" H) (fun a H => cmpA a [.Lt] [(fun H => some (AV.int 0, H))] H))), (fun H => tob (bnd (lkp ρ "number" H) (fun a H => cmpA a [.GtE] [(fun H => lkp ρ "many" H)] H)))] H) (s_need_task_k1 Φ base ρ) (nxt ρ)) (fun _ _ => none) (rzI (boolB .Or [(fun H => tob (bnd (lkp ρ "number" H) (fun a H => cmpA a [.Lt] [(fun H => some (AV.int 0, H))] H))), (fun H => tob (bnd (lkp ρ "number" H) (fun a H => cmpA a [.GtE] [(fun H => lkp ρ "many" H)] H)))] H) (s_need_task_x2 Φ base ρ) (fun _ => none))

theorem gx_need_task (n base : Nat) (anumber amany : AV) (H : HP) : callF CC (n+1) base (bang "need_task") [anumber, amany] H = objR (s_need_task_rz (callF CC n) base (upd (upd locNil "number" anumber) "many" amany) H) := by kernel_rfl

noncomputable def s_need_new_k1 (Φ : Phi) (base : Nat) (ρ : Loc) (H : HP) : RS :=
  sq (/- no form: Raise -/ none) nxt

noncomputable def s_need_new_k2 (Φ : Phi) (base : Nat) (ρ : Loc) (H : HP) : RS :=
  sq (asgI (fun H => lkp ρ "seen" H) (fun H => lkp ρ "number" H) (fun H => some (AV.bool true, H)) ρ H) nxt

noncomputable def s_need_new_body (Φ : Phi) (base : Nat) (ρ : Loc) (H : HP) : RS :=
  sq (iteS (tob (bnd (lkp ρ "number" H) (fun a H => cmpA a [.In] [(fun H => lkp ρ "seen" H)] H))) (s_need_new_k1 Φ base ρ) (nxt ρ)) (s_need_new_k2 Φ base)

noncomputable def s_need_new (Φ : Phi) (base : Nat) (anumber aseen : AV) (H : HP) : R AV :=
  finR (s_need_new_body Φ base (upd (upd locNil "number" anumber) "seen" aseen) H)

theorem g_need_new (n base : Nat) (anumber aseen : AV) (H : HP) : callF CC (n+1) base "need_new" [anumber, aseen] H = s_need_new (callF CC n) base anumber aseen H := by kernel_rfl

noncomputable def s_need_new_x3 (Φ : Phi) (base : Nat) (ρ : Loc) (H : HP) : R Addr :=
  rzq (asgI (fun H => lkp ρ "seen" H) (fun H => lkp ρ "number" H) (fun H => some (AV.bool true, H)) ρ H) (fun _ _ => none) (none)

noncomputable def s_need_new_x4 (Φ : Phi) (base : Nat) (ρ : Loc) (H : HP) : R Addr :=
  rzq (/- no form: Raise -/ none) (fun _ _ => none) (some (85, H))

noncomputable def s_need_new_rz (Φ : Phi) (base : Nat) (ρ : Loc) (H : HP) : R Addr :=
  rzq (iteS (tob (bnd (lkp ρ "number" H) (fun a H => cmpA a [.In] [(fun H => lkp ρ "seen" H)] H))) (s_need_new_k1 Φ base ρ) (nxt ρ)) (s_need_new_x3 Φ base) (rzI (tob (bnd (lkp ρ "number" H) (fun a H => cmpA a [.In] [(fun H => lkp ρ "seen" H)] H))) (s_need_new_x4 Φ base ρ) (fun _ => none))

theorem gx_need_new (n base : Nat) (anumber aseen : AV) (H : HP) : callF CC (n+1) base (bang "need_new") [anumber, aseen] H = objR (s_need_new_rz (callF CC n) base (upd (upd locNil "number" anumber) "seen" aseen) H) := by kernel_rfl

noncomputable def s_checked_k1 (Φ : Phi) (base : Nat) (ρ : Loc) (H : HP) : RS :=
  sq (/- no form: Raise -/ none) nxt

noncomputable def s_checked_k2 (Φ : Phi) (base : Nat) (ρ : Loc) (H : HP) : RS :=
  sq (dropR (callP Φ base "need_new" [(fun H => lkp ρ "number" H), (fun H => lkp ρ "seen" H)] H) ρ) nxt

noncomputable def s_checked_k3 (Φ : Phi) (base : Nat) (ρ : Loc) (H : HP) : RS :=
  sq (iteS (tob (bnd (lkp ρ "number" H) (fun a H => cmpA a [.LtE] [(fun H => lkp ρ "task" H)] H))) (s_checked_k1 Φ base ρ) (nxt ρ)) (s_checked_k2 Φ base)

noncomputable def s_checked_b4 (Φ : Phi) (base : Nat) (ρ : Loc) (H : HP) : RS :=
  sq (dropR (callP Φ base "need_task" [(fun H => lkp ρ "number" H), (fun H => callQ .len [(fun H => lkp ρ "brood" H)] H)] H) ρ) (s_checked_k3 Φ base)

noncomputable def s_checked_i5 (Φ : Phi) (base : Nat) (ρ : Loc) (H : HP) : R AV :=
  lkp ρ "children" H

noncomputable def s_checked_b6 (Φ : Phi) (base : Nat) (ρ : Loc) (H : HP) : RS :=
  sq (forR (s_checked_b4 Φ base) (updName "number") (s_checked_i5 Φ base ρ) ρ H) nxt

noncomputable def s_checked_i7 (Φ : Phi) (base : Nat) (ρ : Loc) (H : HP) : R AV :=
  enumR (lkp ρ "brood" H)

noncomputable def s_checked_b8 (Φ : Phi) (base : Nat) (ρ : Loc) (H : HP) : RS :=
  sq (dropR (callP Φ base "need_task" [(fun H => lkp ρ "number" H), (fun H => callQ .len [(fun H => lkp ρ "brood" H)] H)] H) ρ) (s_checked_k2 Φ base)

noncomputable def s_checked_i9 (Φ : Phi) (base : Nat) (ρ : Loc) (H : HP) : R AV :=
  lkp ρ "tasks" H

noncomputable def s_checked_b10 (Φ : Phi) (base : Nat) (ρ : Loc) (H : HP) : RS :=
  sq (forR (s_checked_b8 Φ base) (updName "number") (s_checked_i9 Φ base ρ) ρ H) nxt

noncomputable def s_checked_i11 (Φ : Phi) (base : Nat) (ρ : Loc) (H : HP) : R AV :=
  lkp ρ "starts" H

noncomputable def s_checked_c12 (Φ : Phi) (base : Nat) (ρ : Loc) (H : HP) : R AV :=
  madeV true (callQ .list [(fun H => lkp ρ "children" H)] H)

noncomputable def s_checked_i13 (Φ : Phi) (base : Nat) (ρ : Loc) (H : HP) : R AV :=
  lkp ρ "brood" H

noncomputable def s_checked_c14 (Φ : Phi) (base : Nat) (ρ : Loc) (H : HP) : R AV :=
  madeV true (callQ .list [(fun H => lkp ρ "tasks" H)] H)

noncomputable def s_checked_k15 (Φ : Phi) (base : Nat) (ρ : Loc) (H : HP) : RS :=
  sq (retS (tupD [(fun H => madeL (compR tt0 (s_checked_c12 Φ base) "children" ρ (s_checked_i13 Φ base ρ) H)), (fun H => madeL (compR tt0 (s_checked_c14 Φ base) "tasks" ρ (s_checked_i11 Φ base ρ) H))] H) ρ) nxt

noncomputable def s_checked_k16 (Φ : Phi) (base : Nat) (ρ : Loc) (H : HP) : RS :=
  sq (forR (s_checked_b10 Φ base) (updName "tasks") (s_checked_i11 Φ base ρ) ρ H) (s_checked_k15 Φ base)

noncomputable def s_checked_k17 (Φ : Phi) (base : Nat) (ρ : Loc) (H : HP) : RS :=
  sq (forR (s_checked_b6 Φ base) (updTup ["task", "children"]) (s_checked_i7 Φ base ρ) ρ H) (s_checked_k16 Φ base)

noncomputable def s_checked_k18 (Φ : Phi) (base : Nat) (ρ : Loc) (H : HP) : RS :=
  sq (asgN "seen" (newD [] [] H) ρ) (s_checked_k17 Φ base)

noncomputable def s_checked_k19 (Φ : Phi) (base : Nat) (ρ : Loc) (H : HP) : RS :=
  sq (iteS (notB (tob (bnd (some (AV.int 1, H)) (fun a H => cmpA2 a [.LtE, .LtE] [(fun H => callQ .len [(fun H => lkp ρ "starts" H)] H), (fun H => some (AV.int 12, H))] H)))) (s_checked_k1 Φ base ρ) (nxt ρ)) (s_checked_k18 Φ base)

noncomputable def s_checked_k20 (Φ : Phi) (base : Nat) (ρ : Loc) (H : HP) : RS :=
  sq (iteS (tob (bnd (callQ .len [(fun H => lkp ρ "brood" H)] H) (fun a H => cmpA a [.Gt] [(fun H => some (AV.int 200, H))] H))) (s_checked_k1 Φ base ρ) (nxt ρ)) (s_checked_k19 Φ base)

noncomputable def s_checked_body (Φ : Phi) (base : Nat) (ρ : Loc) (H : HP) : RS :=
  sq (asgT (updTup ["brood", "starts"]) (lkp ρ "plan" H) ρ) (s_checked_k20 Φ base)

noncomputable def s_checked (Φ : Phi) (base : Nat) (aplan : AV) (H : HP) : R AV :=
  finR (s_checked_body Φ base (upd locNil "plan" aplan) H)

theorem g_checked (n base : Nat) (aplan : AV) (H : HP) : callF CC (n+1) base "checked" [aplan] H = s_checked (callF CC n) base aplan H := by kernel_rfl

noncomputable def s_checked_x21 (Φ : Phi) (base : Nat) (ρ : Loc) (H : HP) : R Addr :=
  rzq (retS (tupD [(fun H => madeL (compR tt0 (s_checked_c12 Φ base) "children" ρ (s_checked_i13 Φ base ρ) H)), (fun H => madeL (compR tt0 (s_checked_c14 Φ base) "tasks" ρ (s_checked_i11 Φ base ρ) H))] H) ρ) (fun _ _ => none) (none)

noncomputable def s_checked_x22 (Φ : Phi) (base : Nat) (ρ : Loc) (H : HP) : R Addr :=
  rzq (dropR (callP Φ base "need_new" [(fun H => lkp ρ "number" H), (fun H => lkp ρ "seen" H)] H) ρ) (fun _ _ => none) (rzC Φ base "need_new" [(fun H => lkp ρ "number" H), (fun H => lkp ρ "seen" H)] H)

noncomputable def s_checked_x23 (Φ : Phi) (base : Nat) (ρ : Loc) (H : HP) : R Addr :=
  rzq (dropR (callP Φ base "need_task" [(fun H => lkp ρ "number" H), (fun H => callQ .len [(fun H => lkp ρ "brood" H)] H)] H) ρ) (s_checked_x22 Φ base) (rzC Φ base "need_task" [(fun H => lkp ρ "number" H), (fun H => callQ .len [(fun H => lkp ρ "brood" H)] H)] H)

noncomputable def s_checked_x24 (Φ : Phi) (base : Nat) (ρ : Loc) (H : HP) : R Addr :=
  rzq (forR (s_checked_b8 Φ base) (updName "number") (s_checked_i9 Φ base ρ) ρ H) (fun _ _ => none) (rzF (s_checked_b8 Φ base) (s_checked_x23 Φ base) (updName "number") (s_checked_i9 Φ base ρ) ρ H)

noncomputable def s_checked_x25 (Φ : Phi) (base : Nat) (ρ : Loc) (H : HP) : R Addr :=
  rzq (forR (s_checked_b10 Φ base) (updName "tasks") (s_checked_i11 Φ base ρ) ρ H) (s_checked_x21 Φ base) (rzF (s_checked_b10 Φ base) (s_checked_x24 Φ base) (updName "tasks") (s_checked_i11 Φ base ρ) ρ H)

noncomputable def s_checked_x26 (Φ : Phi) (base : Nat) (ρ : Loc) (H : HP) : R Addr :=
  rzq (/- no form: Raise -/ none) (fun _ _ => none) (some (73, H))

noncomputable def s_checked_x27 (Φ : Phi) (base : Nat) (ρ : Loc) (H : HP) : R Addr :=
  rzq (iteS (tob (bnd (lkp ρ "number" H) (fun a H => cmpA a [.LtE] [(fun H => lkp ρ "task" H)] H))) (s_checked_k1 Φ base ρ) (nxt ρ)) (s_checked_x22 Φ base) (rzI (tob (bnd (lkp ρ "number" H) (fun a H => cmpA a [.LtE] [(fun H => lkp ρ "task" H)] H))) (s_checked_x26 Φ base ρ) (fun _ => none))

noncomputable def s_checked_x28 (Φ : Phi) (base : Nat) (ρ : Loc) (H : HP) : R Addr :=
  rzq (dropR (callP Φ base "need_task" [(fun H => lkp ρ "number" H), (fun H => callQ .len [(fun H => lkp ρ "brood" H)] H)] H) ρ) (s_checked_x27 Φ base) (rzC Φ base "need_task" [(fun H => lkp ρ "number" H), (fun H => callQ .len [(fun H => lkp ρ "brood" H)] H)] H)

noncomputable def s_checked_x29 (Φ : Phi) (base : Nat) (ρ : Loc) (H : HP) : R Addr :=
  rzq (forR (s_checked_b4 Φ base) (updName "number") (s_checked_i5 Φ base ρ) ρ H) (fun _ _ => none) (rzF (s_checked_b4 Φ base) (s_checked_x28 Φ base) (updName "number") (s_checked_i5 Φ base ρ) ρ H)

noncomputable def s_checked_x30 (Φ : Phi) (base : Nat) (ρ : Loc) (H : HP) : R Addr :=
  rzq (forR (s_checked_b6 Φ base) (updTup ["task", "children"]) (s_checked_i7 Φ base ρ) ρ H) (s_checked_x25 Φ base) (rzF (s_checked_b6 Φ base) (s_checked_x29 Φ base) (updTup ["task", "children"]) (s_checked_i7 Φ base ρ) ρ H)

noncomputable def s_checked_x31 (Φ : Phi) (base : Nat) (ρ : Loc) (H : HP) : R Addr :=
  rzq (asgN "seen" (newD [] [] H) ρ) (s_checked_x30 Φ base) (none)

noncomputable def s_checked_x32 (Φ : Phi) (base : Nat) (ρ : Loc) (H : HP) : R Addr :=
  rzq (/- no form: Raise -/ none) (fun _ _ => none) (some (49, H))

noncomputable def s_checked_x33 (Φ : Phi) (base : Nat) (ρ : Loc) (H : HP) : R Addr :=
  rzq (iteS (notB (tob (bnd (some (AV.int 1, H)) (fun a H => cmpA2 a [.LtE, .LtE] [(fun H => callQ .len [(fun H => lkp ρ "starts" H)] H), (fun H => some (AV.int 12, H))] H)))) (s_checked_k1 Φ base ρ) (nxt ρ)) (s_checked_x31 Φ base) (rzI (notB (tob (bnd (some (AV.int 1, H)) (fun a H => cmpA2 a [.LtE, .LtE] [(fun H => callQ .len [(fun H => lkp ρ "starts" H)] H), (fun H => some (AV.int 12, H))] H)))) (s_checked_x32 Φ base ρ) (fun _ => none))

noncomputable def s_checked_x34 (Φ : Phi) (base : Nat) (ρ : Loc) (H : HP) : R Addr :=
  rzq (/- no form: Raise -/ none) (fun _ _ => none) (some (37, H))

noncomputable def s_checked_x35 (Φ : Phi) (base : Nat) (ρ : Loc) (H : HP) : R Addr :=
  rzq (iteS (tob (bnd (callQ .len [(fun H => lkp ρ "brood" H)] H) (fun a H => cmpA a [.Gt] [(fun H => some (AV.int 200, H))] H))) (s_checked_k1 Φ base ρ) (nxt ρ)) (s_checked_x33 Φ base) (rzI (tob (bnd (callQ .len [(fun H => lkp ρ "brood" H)] H) (fun a H => cmpA a [.Gt] [(fun H => some (AV.int 200, H))] H))) (s_checked_x34 Φ base ρ) (fun _ => none))

noncomputable def s_checked_rz (Φ : Phi) (base : Nat) (ρ : Loc) (H : HP) : R Addr :=
  rzq (asgT (updTup ["brood", "starts"]) (lkp ρ "plan" H) ρ) (s_checked_x35 Φ base) (none)

theorem gx_checked (n base : Nat) (aplan : AV) (H : HP) : callF CC (n+1) base (bang "checked") [aplan] H = objR (s_checked_rz (callF CC n) base (upd locNil "plan" aplan) H) := by kernel_rfl

noncomputable def s_law_cell_at_k1 (Φ : Phi) (base : Nat) (ρ : Loc) (H : HP) : RS :=
  sq (retS (subI (fun H => lkp ρ "_law_script" H) (fun H => lkp ρ "_law_k" H) H) ρ) nxt

noncomputable def s_law_cell_at_k2 (Φ : Phi) (base : Nat) (ρ : Loc) (H : HP) : RS :=
  sq (retS (some (AV.int 0, H)) ρ) nxt

noncomputable def s_law_cell_at_body (Φ : Phi) (base : Nat) (ρ : Loc) (H : HP) : RS :=
  sq (iteS (tob (bnd (lkp ρ "_law_k" H) (fun a H => cmpA a [.Lt] [(fun H => callQ .len [(fun H => lkp ρ "_law_script" H)] H)] H))) (s_law_cell_at_k1 Φ base ρ) (nxt ρ)) (s_law_cell_at_k2 Φ base)

noncomputable def s_law_cell_at (Φ : Phi) (base : Nat) (alaw_script alaw_k : AV) (H : HP) : R AV :=
  finR (s_law_cell_at_body Φ base (upd (upd locNil "_law_script" alaw_script) "_law_k" alaw_k) H)

theorem g_law_cell_at (n base : Nat) (alaw_script alaw_k : AV) (H : HP) : callF CC (n+1) base "_law_cell_at" [alaw_script, alaw_k] H = s_law_cell_at (callF CC n) base alaw_script alaw_k H := by kernel_rfl

noncomputable def s_law_plan_by_c1 (Φ : Phi) (base : Nat) (ρ : Loc) (H : HP) : R AV :=
  madeV true (listD [] H)

noncomputable def s_law_plan_by_i2 (Φ : Phi) (base : Nat) (ρ : Loc) (H : HP) : R AV :=
  callQ .range [(fun H => lkp ρ "_law_size" H)] H

noncomputable def s_law_plan_by_c3 (Φ : Phi) (base : Nat) (ρ : Loc) (H : HP) : R AV :=
  madeV true (listD [] H)

noncomputable def s_law_plan_by_i4 (Φ : Phi) (base : Nat) (ρ : Loc) (H : HP) : R AV :=
  callQ .range [(fun H => lkp ρ "_law_many" H)] H

noncomputable def s_law_plan_by_k5 (Φ : Phi) (base : Nat) (ρ : Loc) (H : HP) : RS :=
  sq (dropR (methQ base .append (fun H => subI (fun H => lkp ρ "_law_brood" H) (fun H => binR .Mod (fun H => binR .FloorDiv (fun H => lkp ρ "_law_way" H) (fun H => some (AV.int 5, H)) H) (fun H => lkp ρ "_law_task" H) H) H) [(fun H => lkp ρ "_law_task" H)] H) ρ) nxt

noncomputable def s_law_plan_by_k6 (Φ : Phi) (base : Nat) (ρ : Loc) (H : HP) : RS :=
  sq (dropR (methQ base .insert (fun H => subI (fun H => lkp ρ "_law_brood" H) (fun H => binR .Sub (fun H => lkp ρ "_law_task" H) (fun H => some (AV.int 1, H)) H) H) [(fun H => some (AV.int 0, H)), (fun H => lkp ρ "_law_task" H)] H) ρ) nxt

noncomputable def s_law_plan_by_k7 (Φ : Phi) (base : Nat) (ρ : Loc) (H : HP) : RS :=
  sq (dropR (methQ base .append (fun H => subI (fun H => lkp ρ "_law_starts" H) (fun H => binR .Mod (fun H => binR .FloorDiv (fun H => lkp ρ "_law_way" H) (fun H => some (AV.int 25, H)) H) (fun H => subI (fun H => listD [(fun H => some (AV.int 1, H)), (fun H => lkp ρ "_law_many" H)] H) (fun H => binR .Mod (fun H => binR .FloorDiv (fun H => lkp ρ "_law_cell" H) (fun H => some (AV.int 4000, H)) H) (fun H => some (AV.int 2, H)) H) H) H) H) [(fun H => lkp ρ "_law_task" H)] H) ρ) nxt

noncomputable def s_law_plan_by_k8 (Φ : Phi) (base : Nat) (ρ : Loc) (H : HP) : RS :=
  sq (iteS (tob (bnd (binR .Mod (fun H => lkp ρ "_law_way" H) (fun H => some (AV.int 25, H)) H) (fun a H => cmpA a [.NotEq] [(fun H => some (AV.int 23, H))] H))) (s_law_plan_by_k7 Φ base ρ) (nxt ρ)) nxt

noncomputable def s_law_plan_by_k9 (Φ : Phi) (base : Nat) (ρ : Loc) (H : HP) : RS :=
  sq (iteS (boolB .And [(fun H => tob (bnd (binR .Mod (fun H => lkp ρ "_law_way" H) (fun H => some (AV.int 5, H)) H) (fun a H => cmpA a [.Eq] [(fun H => some (AV.int 2, H))] H))), (fun H => tob (bnd (lkp ρ "_law_task" H) (fun a H => cmpA a [.Gt] [(fun H => some (AV.int 0, H))] H)))] H) (s_law_plan_by_k6 Φ base ρ) (s_law_plan_by_k8 Φ base ρ)) nxt

noncomputable def s_law_plan_by_k10 (Φ : Phi) (base : Nat) (ρ : Loc) (H : HP) : RS :=
  sq (iteS (boolB .And [(fun H => tob (bnd (binR .Mod (fun H => lkp ρ "_law_way" H) (fun H => some (AV.int 5, H)) H) (fun a H => cmpA a [.Lt] [(fun H => some (AV.int 2, H))] H))), (fun H => tob (bnd (lkp ρ "_law_task" H) (fun a H => cmpA a [.Gt] [(fun H => some (AV.int 0, H))] H)))] H) (s_law_plan_by_k5 Φ base ρ) (s_law_plan_by_k9 Φ base ρ)) nxt

noncomputable def s_law_plan_by_b11 (Φ : Phi) (base : Nat) (ρ : Loc) (H : HP) : RS :=
  sq (asgN "_law_way" (binR .Add (fun H => callP Φ base "_law_cell_at" [(fun H => lkp ρ "_law_script" H), (fun H => binR .Add (fun H => binR .Add (fun H => lkp ρ "_law_first" H) (fun H => some (AV.int 1, H)) H) (fun H => lkp ρ "_law_task" H) H)] H) (fun H => binR .Mult (fun H => lkp ρ "_law_task" H) (fun H => binR .Mod (fun H => binR .FloorDiv (fun H => lkp ρ "_law_cell" H) (fun H => some (AV.int 30000, H)) H) (fun H => some (AV.int 50, H)) H) H) H) ρ) (s_law_plan_by_k10 Φ base)

noncomputable def s_law_plan_by_i12 (Φ : Phi) (base : Nat) (ρ : Loc) (H : HP) : R AV :=
  callQ .range [(fun H => lkp ρ "_law_size" H)] H

noncomputable def s_law_plan_by_k13 (Φ : Phi) (base : Nat) (ρ : Loc) (H : HP) : RS :=
  sq (retS (tupD [(fun H => lkp ρ "_law_brood" H), (fun H => lkp ρ "_law_starts" H)] H) ρ) nxt

noncomputable def s_law_plan_by_k14 (Φ : Phi) (base : Nat) (ρ : Loc) (H : HP) : RS :=
  sq (forR (s_law_plan_by_b11 Φ base) (updName "_law_task") (s_law_plan_by_i12 Φ base ρ) ρ H) (s_law_plan_by_k13 Φ base)

noncomputable def s_law_plan_by_k15 (Φ : Phi) (base : Nat) (ρ : Loc) (H : HP) : RS :=
  sq (asgN "_law_starts" (madeL (compR tt0 (s_law_plan_by_c3 Φ base) "_law_worker" ρ (s_law_plan_by_i4 Φ base ρ) H)) ρ) (s_law_plan_by_k14 Φ base)

noncomputable def s_law_plan_by_k16 (Φ : Phi) (base : Nat) (ρ : Loc) (H : HP) : RS :=
  sq (asgN "_law_brood" (madeL (compR tt0 (s_law_plan_by_c1 Φ base) "_law_task" ρ (s_law_plan_by_i2 Φ base ρ) H)) ρ) (s_law_plan_by_k15 Φ base)

noncomputable def s_law_plan_by_k17 (Φ : Phi) (base : Nat) (ρ : Loc) (H : HP) : RS :=
  sq (asgN "_law_size" (binR .Mod (fun H => binR .FloorDiv (fun H => lkp ρ "_law_cell" H) (fun H => some (AV.int 144, H)) H) (fun H => binR .Add (fun H => lkp ρ "_law_most" H) (fun H => some (AV.int 1, H)) H) H) ρ) (s_law_plan_by_k16 Φ base)

noncomputable def s_law_plan_by_k18 (Φ : Phi) (base : Nat) (ρ : Loc) (H : HP) : RS :=
  sq (asgN "_law_many" (binR .Add (fun H => some (AV.int 1, H)) (fun H => binR .Mod (fun H => lkp ρ "_law_cell" H) (fun H => subI (fun H => listD [(fun H => some (AV.int 4, H)), (fun H => some (AV.int 4, H)), (fun H => some (AV.int 12, H))] H) (fun H => binR .Mod (fun H => binR .FloorDiv (fun H => lkp ρ "_law_cell" H) (fun H => some (AV.int 48, H)) H) (fun H => some (AV.int 3, H)) H) H) H) H) ρ) (s_law_plan_by_k17 Φ base)

noncomputable def s_law_plan_by_body (Φ : Phi) (base : Nat) (ρ : Loc) (H : HP) : RS :=
  sq (asgN "_law_cell" (callP Φ base "_law_cell_at" [(fun H => lkp ρ "_law_script" H), (fun H => lkp ρ "_law_first" H)] H) ρ) (s_law_plan_by_k18 Φ base)

noncomputable def s_law_plan_by (Φ : Phi) (base : Nat) (alaw_script alaw_first alaw_most : AV) (H : HP) : R AV :=
  (match H with | [] => finZ (s_law_plan_by_body Φ 0 (upd (upd (upd locNil "_law_script" alaw_script) "_law_first" alaw_first) "_law_most" alaw_most) []) | _ :: _ => none)

theorem g_law_plan_by (n base : Nat) (alaw_script alaw_first alaw_most : AV) (H : HP) : callF CC (n+1) base "_law_plan_by" [alaw_script, alaw_first, alaw_most] H = s_law_plan_by (callF CC n) base alaw_script alaw_first alaw_most H := by kernel_rfl

noncomputable def s_law_alike_k1 (Φ : Phi) (base : Nat) (ρ : Loc) (H : HP) : RS :=
  sq (retS (some (AV.bool false, H)) ρ) nxt

noncomputable def s_law_alike_k2 (Φ : Phi) (base : Nat) (ρ : Loc) (H : HP) : RS :=
  sq (retS (some (AV.bool false, H)) ρ) nxt

noncomputable def s_law_alike_c3 (Φ : Phi) (base : Nat) (ρ : Loc) (H : HP) : R AV :=
  callP Φ base "_law_alike" [(fun H => subI (fun H => lkp ρ "_law_found" H) (fun H => lkp ρ "_law_k" H) H), (fun H => subI (fun H => lkp ρ "_law_due" H) (fun H => lkp ρ "_law_k" H) H)] H

noncomputable def s_law_alike_i4 (Φ : Phi) (base : Nat) (ρ : Loc) (H : HP) : R AV :=
  callQ .range [(fun H => callQ .len [(fun H => lkp ρ "_law_due" H)] H)] H

noncomputable def s_law_alike_k5 (Φ : Phi) (base : Nat) (ρ : Loc) (H : HP) : RS :=
  sq (retS (callQ .all [(fun H => frozenL (compR tt0 (s_law_alike_c3 Φ base) "_law_k" ρ (s_law_alike_i4 Φ base ρ) H))] H) ρ) nxt

noncomputable def s_law_alike_k6 (Φ : Phi) (base : Nat) (ρ : Loc) (H : HP) : RS :=
  sq (iteS (tob (bnd (callQ .len [(fun H => lkp ρ "_law_found" H)] H) (fun a H => cmpA a [.NotEq] [(fun H => callQ .len [(fun H => lkp ρ "_law_due" H)] H)] H))) (s_law_alike_k2 Φ base ρ) (nxt ρ)) (s_law_alike_k5 Φ base)

noncomputable def s_law_alike_k7 (Φ : Phi) (base : Nat) (ρ : Loc) (H : HP) : RS :=
  sq (iteS (boolB .Or [(fun H => notB (tob (isR [.tuple, .list] (lkp ρ "_law_found" H)))), (fun H => tob (bnd (isR [.tuple] (lkp ρ "_law_found" H)) (fun a H => cmpA a [.NotEq] [(fun H => isR [.tuple] (lkp ρ "_law_due" H))] H)))] H) (s_law_alike_k1 Φ base ρ) (nxt ρ)) (s_law_alike_k6 Φ base)

noncomputable def s_law_alike_k8 (Φ : Phi) (base : Nat) (ρ : Loc) (H : HP) : RS :=
  sq (retS (boolV .And [(fun H => isR [.str] (lkp ρ "_law_found" H)), (fun H => bnd (lkp ρ "_law_found" H) (fun a H => cmpA a [.Eq] [(fun H => lkp ρ "_law_due" H)] H))] H) ρ) nxt

noncomputable def s_law_alike_k9 (Φ : Phi) (base : Nat) (ρ : Loc) (H : HP) : RS :=
  sq (retS (bnd (lkp ρ "_law_found" H) (fun a H => cmpA a [.Is] [(fun H => some (AV.none, H))] H)) ρ) nxt

noncomputable def s_law_alike_k10 (Φ : Phi) (base : Nat) (ρ : Loc) (H : HP) : RS :=
  sq (retS (boolV .And [(fun H => isR [.int] (lkp ρ "_law_found" H)), (fun H => notV (isR [.bool] (lkp ρ "_law_found" H))), (fun H => bnd (lkp ρ "_law_found" H) (fun a H => cmpA a [.Eq] [(fun H => lkp ρ "_law_due" H)] H))] H) ρ) nxt

noncomputable def s_law_alike_k11 (Φ : Phi) (base : Nat) (ρ : Loc) (H : HP) : RS :=
  sq (iteS (tob (bnd (lkp ρ "_law_due" H) (fun a H => cmpA a [.Is] [(fun H => some (AV.none, H))] H))) (s_law_alike_k9 Φ base ρ) (nxt ρ)) (s_law_alike_k10 Φ base)

noncomputable def s_law_alike_k12 (Φ : Phi) (base : Nat) (ρ : Loc) (H : HP) : RS :=
  sq (iteS (tob (isR [.str] (lkp ρ "_law_due" H))) (s_law_alike_k8 Φ base ρ) (nxt ρ)) (s_law_alike_k11 Φ base)

noncomputable def s_law_alike_body (Φ : Phi) (base : Nat) (ρ : Loc) (H : HP) : RS :=
  sq (iteS (tob (isR [.tuple, .list] (lkp ρ "_law_due" H))) (s_law_alike_k7 Φ base ρ) (nxt ρ)) (s_law_alike_k12 Φ base)

noncomputable def s_law_alike (Φ : Phi) (base : Nat) (alaw_found alaw_due : AV) (H : HP) : R AV :=
  finR (s_law_alike_body Φ base (upd (upd locNil "_law_found" alaw_found) "_law_due" alaw_due) H)

theorem g_law_alike (n base : Nat) (alaw_found alaw_due : AV) (H : HP) : callF CC (n+1) base "_law_alike" [alaw_found, alaw_due] H = s_law_alike (callF CC n) base alaw_found alaw_due H := by kernel_rfl

noncomputable def s_law_wrong_k1 (Φ : Phi) (base : Nat) (ρ : Loc) (H : HP) : RS :=
  sq (retS (some (AV.str "many", H)) ρ) nxt

noncomputable def s_law_wrong_k2 (Φ : Phi) (base : Nat) (ρ : Loc) (H : HP) : RS :=
  sq (retS (some (AV.str "crew", H)) ρ) nxt

noncomputable def s_law_wrong_c3 (Φ : Phi) (base : Nat) (ρ : Loc) (H : HP) : R AV :=
  tupD [(fun H => lkp ρ "_law_task" H), (fun H => subI (fun H => lkp ρ "_law_brood" H) (fun H => lkp ρ "_law_task" H) H)] H

noncomputable def s_law_wrong_i4 (Φ : Phi) (base : Nat) (ρ : Loc) (H : HP) : R AV :=
  callQ .range [(fun H => callQ .len [(fun H => lkp ρ "_law_brood" H)] H)] H

noncomputable def s_law_wrong_c5 (Φ : Phi) (base : Nat) (ρ : Loc) (H : HP) : R AV :=
  tupD [(fun H => negV (some (AV.int 1, H))), (fun H => lkp ρ "_law_row" H)] H

noncomputable def s_law_wrong_i6 (Φ : Phi) (base : Nat) (ρ : Loc) (H : HP) : R AV :=
  lkp ρ "_law_starts" H

noncomputable def s_law_wrong_k7 (Φ : Phi) (base : Nat) (ρ : Loc) (H : HP) : RS :=
  sq (retS (some (AV.str "task", H)) ρ) nxt

noncomputable def s_law_wrong_k8 (Φ : Phi) (base : Nat) (ρ : Loc) (H : HP) : RS :=
  sq (retS (some (AV.str "early", H)) ρ) nxt

noncomputable def s_law_wrong_k9 (Φ : Phi) (base : Nat) (ρ : Loc) (H : HP) : RS :=
  sq (retS (some (AV.str "twice", H)) ρ) nxt

noncomputable def s_law_wrong_k10 (Φ : Phi) (base : Nat) (ρ : Loc) (H : HP) : RS :=
  sq (dropR (methQ base .append (fun H => lkp ρ "_law_seen" H) [(fun H => lkp ρ "_law_task" H)] H) ρ) nxt

noncomputable def s_law_wrong_k11 (Φ : Phi) (base : Nat) (ρ : Loc) (H : HP) : RS :=
  sq (iteS (tob (bnd (lkp ρ "_law_task" H) (fun a H => cmpA a [.In] [(fun H => lkp ρ "_law_seen" H)] H))) (s_law_wrong_k9 Φ base ρ) (nxt ρ)) (s_law_wrong_k10 Φ base)

noncomputable def s_law_wrong_k12 (Φ : Phi) (base : Nat) (ρ : Loc) (H : HP) : RS :=
  sq (iteS (tob (bnd (lkp ρ "_law_task" H) (fun a H => cmpA a [.LtE] [(fun H => lkp ρ "_law_parent" H)] H))) (s_law_wrong_k8 Φ base ρ) (nxt ρ)) (s_law_wrong_k11 Φ base)

noncomputable def s_law_wrong_b13 (Φ : Phi) (base : Nat) (ρ : Loc) (H : HP) : RS :=
  sq (iteS (boolB .Or [(fun H => tob (bnd (lkp ρ "_law_task" H) (fun a H => cmpA a [.Lt] [(fun H => some (AV.int 0, H))] H))), (fun H => tob (bnd (lkp ρ "_law_task" H) (fun a H => cmpA a [.GtE] [(fun H => callQ .len [(fun H => lkp ρ "_law_brood" H)] H)] H)))] H) (s_law_wrong_k7 Φ base ρ) (nxt ρ)) (s_law_wrong_k12 Φ base)

noncomputable def s_law_wrong_i14 (Φ : Phi) (base : Nat) (ρ : Loc) (H : HP) : R AV :=
  lkp ρ "_law_tasks" H

noncomputable def s_law_wrong_b15 (Φ : Phi) (base : Nat) (ρ : Loc) (H : HP) : RS :=
  sq (forR (s_law_wrong_b13 Φ base) (updName "_law_task") (s_law_wrong_i14 Φ base ρ) ρ H) nxt

noncomputable def s_law_wrong_i16 (Φ : Phi) (base : Nat) (ρ : Loc) (H : HP) : R AV :=
  lkp ρ "_law_rows" H

noncomputable def s_law_wrong_k17 (Φ : Phi) (base : Nat) (ρ : Loc) (H : HP) : RS :=
  sq (retS (some (AV.str "", H)) ρ) nxt

noncomputable def s_law_wrong_k18 (Φ : Phi) (base : Nat) (ρ : Loc) (H : HP) : RS :=
  sq (forR (s_law_wrong_b15 Φ base) (updTup ["_law_parent", "_law_tasks"]) (s_law_wrong_i16 Φ base ρ) ρ H) (s_law_wrong_k17 Φ base)

noncomputable def s_law_wrong_k19 (Φ : Phi) (base : Nat) (ρ : Loc) (H : HP) : RS :=
  sq (asgN "_law_rows" (binR .Add (fun H => frozenL (compR tt0 (s_law_wrong_c3 Φ base) "_law_task" ρ (s_law_wrong_i4 Φ base ρ) H)) (fun H => frozenL (compR tt0 (s_law_wrong_c5 Φ base) "_law_row" ρ (s_law_wrong_i6 Φ base ρ) H)) H) ρ) (s_law_wrong_k18 Φ base)

noncomputable def s_law_wrong_k20 (Φ : Phi) (base : Nat) (ρ : Loc) (H : HP) : RS :=
  sq (asgN "_law_seen" (madeV true (listD [] H)) ρ) (s_law_wrong_k19 Φ base)

noncomputable def s_law_wrong_k21 (Φ : Phi) (base : Nat) (ρ : Loc) (H : HP) : RS :=
  sq (iteS (boolB .Or [(fun H => tob (bnd (callQ .len [(fun H => lkp ρ "_law_starts" H)] H) (fun a H => cmpA a [.Lt] [(fun H => some (AV.int 1, H))] H))), (fun H => tob (bnd (callQ .len [(fun H => lkp ρ "_law_starts" H)] H) (fun a H => cmpA a [.Gt] [(fun H => some (AV.int 12, H))] H)))] H) (s_law_wrong_k2 Φ base ρ) (nxt ρ)) (s_law_wrong_k20 Φ base)

noncomputable def s_law_wrong_body (Φ : Phi) (base : Nat) (ρ : Loc) (H : HP) : RS :=
  sq (iteS (tob (bnd (callQ .len [(fun H => lkp ρ "_law_brood" H)] H) (fun a H => cmpA a [.Gt] [(fun H => some (AV.int 200, H))] H))) (s_law_wrong_k1 Φ base ρ) (nxt ρ)) (s_law_wrong_k21 Φ base)

noncomputable def s_law_wrong (Φ : Phi) (base : Nat) (alaw_brood alaw_starts : AV) (H : HP) : R AV :=
  finR (s_law_wrong_body Φ base (upd (upd locNil "_law_brood" alaw_brood) "_law_starts" alaw_starts) H)

theorem g_law_wrong (n base : Nat) (alaw_brood alaw_starts : AV) (H : HP) : callF CC (n+1) base "_law_wrong" [alaw_brood, alaw_starts] H = s_law_wrong (callF CC n) base alaw_brood alaw_starts H := by kernel_rfl

noncomputable def s_law_put_in_k1 (Φ : Phi) (base : Nat) (ρ : Loc) (H : HP) : RS :=
  sq (retS (lkp ρ "_law_lists" H) ρ) nxt

noncomputable def s_law_put_in_k2 (Φ : Phi) (base : Nat) (ρ : Loc) (H : HP) : RS :=
  sq (retS (binR .Add (fun H => binR .Add (fun H => subS (fun H => lkp ρ "_law_lists" H) noneE (fun H => lkp ρ "_law_at" H) H) (fun H => listD [(fun H => lkp ρ "_law_row" H)] H) H) (fun H => subS (fun H => lkp ρ "_law_lists" H) (fun H => binR .Add (fun H => lkp ρ "_law_at" H) (fun H => some (AV.int 1, H)) H) noneE H) H) ρ) nxt

noncomputable def s_law_put_in_k3 (Φ : Phi) (base : Nat) (ρ : Loc) (H : HP) : RS :=
  sq (asgN "_law_row" (binR .Add (fun H => binR .Add (fun H => subS (fun H => lkp ρ "_law_row" H) noneE (fun H => lkp ρ "_law_place" H) H) (fun H => listD [(fun H => lkp ρ "_law_task" H)] H) H) (fun H => subS (fun H => lkp ρ "_law_row" H) (fun H => lkp ρ "_law_place" H) noneE H) H) ρ) (s_law_put_in_k2 Φ base)

noncomputable def s_law_put_in_k4 (Φ : Phi) (base : Nat) (ρ : Loc) (H : HP) : RS :=
  sq (asgN "_law_row" (subI (fun H => lkp ρ "_law_lists" H) (fun H => lkp ρ "_law_at" H) H) ρ) (s_law_put_in_k3 Φ base)

noncomputable def s_law_put_in_k5 (Φ : Phi) (base : Nat) (ρ : Loc) (H : HP) : RS :=
  sq (asgN "_law_place" (binR .Mod (fun H => binR .FloorDiv (fun H => lkp ρ "_law_cell" H) (fun H => some (AV.int 211, H)) H) (fun H => binR .Add (fun H => callQ .len [(fun H => subI (fun H => lkp ρ "_law_lists" H) (fun H => lkp ρ "_law_at" H) H)] H) (fun H => some (AV.int 1, H)) H) H) ρ) (s_law_put_in_k4 Φ base)

noncomputable def s_law_put_in_k6 (Φ : Phi) (base : Nat) (ρ : Loc) (H : HP) : RS :=
  sq (asgN "_law_at" (binR .Mod (fun H => lkp ρ "_law_cell" H) (fun H => callQ .len [(fun H => lkp ρ "_law_lists" H)] H) H) ρ) (s_law_put_in_k5 Φ base)

noncomputable def s_law_put_in_body (Φ : Phi) (base : Nat) (ρ : Loc) (H : HP) : RS :=
  sq (iteS (tob (bnd (lkp ρ "_law_lists" H) (fun a H => cmpA a [.Eq] [(fun H => listD [] H)] H))) (s_law_put_in_k1 Φ base ρ) (nxt ρ)) (s_law_put_in_k6 Φ base)

noncomputable def s_law_put_in (Φ : Phi) (base : Nat) (alaw_lists alaw_cell alaw_task : AV) (H : HP) : R AV :=
  finR (s_law_put_in_body Φ base (upd (upd (upd locNil "_law_lists" alaw_lists) "_law_cell" alaw_cell) "_law_task" alaw_task) H)

theorem g_law_put_in (n base : Nat) (alaw_lists alaw_cell alaw_task : AV) (H : HP) : callF CC (n+1) base "_law_put_in" [alaw_lists, alaw_cell, alaw_task] H = s_law_put_in (callF CC n) base alaw_lists alaw_cell alaw_task H := by kernel_rfl

noncomputable def s_law_changed_k1 (Φ : Phi) (base : Nat) (ρ : Loc) (H : HP) : RS :=
  sq (retS (tupD [(fun H => lkp ρ "_law_brood" H), (fun H => callP Φ base "_law_put_in" [(fun H => lkp ρ "_law_starts" H), (fun H => lkp ρ "_law_some" H), (fun H => lkp ρ "_law_odd" H)] H)] H) ρ) nxt

noncomputable def s_law_changed_k2 (Φ : Phi) (base : Nat) (ρ : Loc) (H : HP) : RS :=
  sq (retS (tupD [(fun H => callP Φ base "_law_put_in" [(fun H => lkp ρ "_law_brood" H), (fun H => lkp ρ "_law_some" H), (fun H => lkp ρ "_law_odd" H)] H), (fun H => lkp ρ "_law_starts" H)] H) ρ) nxt

noncomputable def s_law_changed_k3 (Φ : Phi) (base : Nat) (ρ : Loc) (H : HP) : RS :=
  sq (iteS (tob (bnd (lkp ρ "_law_way" H) (fun a H => cmpA a [.Eq] [(fun H => some (AV.int 2, H))] H))) (s_law_changed_k1 Φ base ρ) (nxt ρ)) (s_law_changed_k2 Φ base)

noncomputable def s_law_changed_k4 (Φ : Phi) (base : Nat) (ρ : Loc) (H : HP) : RS :=
  sq (asgN "_law_odd" (subI (fun H => lkp ρ "_law_odd" H) (fun H => binR .Mod (fun H => binR .FloorDiv (fun H => lkp ρ "_law_rest" H) (fun H => some (AV.int 50, H)) H) (fun H => some (AV.int 7, H)) H) H) ρ) (s_law_changed_k3 Φ base)

noncomputable def s_law_changed_k5 (Φ : Phi) (base : Nat) (ρ : Loc) (H : HP) : RS :=
  sq (asgN "_law_odd" (listD [(fun H => negV (some (AV.int 1, H))), (fun H => lkp ρ "_law_size" H), (fun H => binR .Add (fun H => binR .Add (fun H => lkp ρ "_law_size" H) (fun H => some (AV.int 1, H)) H) (fun H => binR .Mod (fun H => lkp ρ "_law_rest" H) (fun H => some (AV.int 999, H)) H) H), (fun H => binR .Sub (fun H => negV (some (AV.int 1, H))) (fun H => binR .Mod (fun H => lkp ρ "_law_rest" H) (fun H => some (AV.int 99, H)) H) H), (fun H => binR .Pow (fun H => some (AV.int 10, H)) (fun H => some (AV.int 12, H)) H), (fun H => some (AV.int 0, H)), (fun H => binR .Mod (fun H => lkp ρ "_law_rest" H) (fun H => binR .Add (fun H => lkp ρ "_law_size" H) (fun H => some (AV.int 1, H)) H) H)] H) ρ) (s_law_changed_k4 Φ base)

noncomputable def s_law_changed_k6 (Φ : Phi) (base : Nat) (ρ : Loc) (H : HP) : RS :=
  sq (retS (tupD [(fun H => callP Φ base "_law_put_in" [(fun H => lkp ρ "_law_brood" H), (fun H => lkp ρ "_law_some" H), (fun H => binR .Mod (fun H => lkp ρ "_law_rest" H) (fun H => binR .Add (fun H => binR .Mod (fun H => lkp ρ "_law_some" H) (fun H => lkp ρ "_law_size" H) H) (fun H => some (AV.int 1, H)) H) H)] H), (fun H => lkp ρ "_law_starts" H)] H) ρ) nxt

noncomputable def s_law_changed_k7 (Φ : Phi) (base : Nat) (ρ : Loc) (H : HP) : RS :=
  sq (retS (tupD [(fun H => lkp ρ "_law_brood" H), (fun H => callP Φ base "_law_put_in" [(fun H => lkp ρ "_law_starts" H), (fun H => lkp ρ "_law_some" H), (fun H => binR .Mod (fun H => lkp ρ "_law_rest" H) (fun H => lkp ρ "_law_size" H) H)] H)] H) ρ) nxt

noncomputable def s_law_changed_k8 (Φ : Phi) (base : Nat) (ρ : Loc) (H : HP) : RS :=
  sq (retS (tupD [(fun H => lkp ρ "_law_brood" H), (fun H => subS (fun H => binR .Mult (fun H => lkp ρ "_law_starts" H) (fun H => some (AV.int 13, H)) H) noneE (fun H => subI (fun H => listD [(fun H => some (AV.int 0, H)), (fun H => some (AV.int 1, H)), (fun H => some (AV.int 12, H)), (fun H => some (AV.int 13, H))] H) (fun H => binR .Mod (fun H => lkp ρ "_law_rest" H) (fun H => some (AV.int 4, H)) H) H) H)] H) ρ) nxt

noncomputable def s_law_changed_c9 (Φ : Phi) (base : Nat) (ρ : Loc) (H : HP) : R AV :=
  listD [] H

noncomputable def s_law_changed_i10 (Φ : Phi) (base : Nat) (ρ : Loc) (H : HP) : R AV :=
  callQ .range [(fun H => binR .Sub (fun H => subI (fun H => listD [(fun H => some (AV.int 200, H)), (fun H => some (AV.int 201, H)), (fun H => some (AV.int 199, H))] H) (fun H => binR .Mod (fun H => lkp ρ "_law_rest" H) (fun H => some (AV.int 3, H)) H) H) (fun H => lkp ρ "_law_size" H) H)] H

noncomputable def s_law_changed_k11 (Φ : Phi) (base : Nat) (ρ : Loc) (H : HP) : RS :=
  sq (retS (tupD [(fun H => binR .Add (fun H => lkp ρ "_law_brood" H) (fun H => frozenL (compR tt0 (s_law_changed_c9 Φ base) "_law_k" ρ (s_law_changed_i10 Φ base ρ) H)) H), (fun H => lkp ρ "_law_starts" H)] H) ρ) nxt

noncomputable def s_law_changed_k12 (Φ : Phi) (base : Nat) (ρ : Loc) (H : HP) : RS :=
  sq (retS (tupD [(fun H => lkp ρ "_law_brood" H), (fun H => lkp ρ "_law_starts" H)] H) ρ) nxt

noncomputable def s_law_changed_k13 (Φ : Phi) (base : Nat) (ρ : Loc) (H : HP) : RS :=
  sq (iteS (tob (bnd (lkp ρ "_law_way" H) (fun a H => cmpA a [.Eq] [(fun H => some (AV.int 6, H))] H))) (s_law_changed_k11 Φ base ρ) (nxt ρ)) (s_law_changed_k12 Φ base)

noncomputable def s_law_changed_k14 (Φ : Phi) (base : Nat) (ρ : Loc) (H : HP) : RS :=
  sq (iteS (tob (bnd (lkp ρ "_law_way" H) (fun a H => cmpA a [.Eq] [(fun H => some (AV.int 5, H))] H))) (s_law_changed_k8 Φ base ρ) (nxt ρ)) (s_law_changed_k13 Φ base)

noncomputable def s_law_changed_k15 (Φ : Phi) (base : Nat) (ρ : Loc) (H : HP) : RS :=
  sq (iteS (boolB .And [(fun H => tob (bnd (lkp ρ "_law_way" H) (fun a H => cmpA a [.Eq] [(fun H => some (AV.int 4, H))] H))), (fun H => tob (bnd (lkp ρ "_law_size" H) (fun a H => cmpA a [.Gt] [(fun H => some (AV.int 0, H))] H)))] H) (s_law_changed_k7 Φ base ρ) (nxt ρ)) (s_law_changed_k14 Φ base)

noncomputable def s_law_changed_k16 (Φ : Phi) (base : Nat) (ρ : Loc) (H : HP) : RS :=
  sq (iteS (boolB .And [(fun H => tob (bnd (lkp ρ "_law_way" H) (fun a H => cmpA a [.Eq] [(fun H => some (AV.int 3, H))] H))), (fun H => tob (bnd (lkp ρ "_law_size" H) (fun a H => cmpA a [.Gt] [(fun H => some (AV.int 0, H))] H)))] H) (s_law_changed_k6 Φ base ρ) (nxt ρ)) (s_law_changed_k15 Φ base)

noncomputable def s_law_changed_k17 (Φ : Phi) (base : Nat) (ρ : Loc) (H : HP) : RS :=
  sq (iteS (tob (bnd (lkp ρ "_law_way" H) (fun a H => cmpA a [.Lt] [(fun H => some (AV.int 3, H))] H))) (s_law_changed_k5 Φ base ρ) (nxt ρ)) (s_law_changed_k16 Φ base)

noncomputable def s_law_changed_k18 (Φ : Phi) (base : Nat) (ρ : Loc) (H : HP) : RS :=
  sq (asgN "_law_rest" (binR .FloorDiv (fun H => lkp ρ "_law_cell" H) (fun H => some (AV.int 9, H)) H) ρ) (s_law_changed_k17 Φ base)

noncomputable def s_law_changed_k19 (Φ : Phi) (base : Nat) (ρ : Loc) (H : HP) : RS :=
  sq (asgN "_law_way" (binR .Mod (fun H => lkp ρ "_law_cell" H) (fun H => some (AV.int 9, H)) H) ρ) (s_law_changed_k18 Φ base)

noncomputable def s_law_changed_k20 (Φ : Phi) (base : Nat) (ρ : Loc) (H : HP) : RS :=
  sq (asgN "_law_size" (callQ .len [(fun H => lkp ρ "_law_brood" H)] H) ρ) (s_law_changed_k19 Φ base)

noncomputable def s_law_changed_body (Φ : Phi) (base : Nat) (ρ : Loc) (H : HP) : RS :=
  sq (asgT (updTup ["_law_brood", "_law_starts"]) (lkp ρ "_law_plan" H) ρ) (s_law_changed_k20 Φ base)

noncomputable def s_law_changed (Φ : Phi) (base : Nat) (alaw_plan alaw_cell alaw_some : AV) (H : HP) : R AV :=
  finR (s_law_changed_body Φ base (upd (upd (upd locNil "_law_plan" alaw_plan) "_law_cell" alaw_cell) "_law_some" alaw_some) H)

theorem g_law_changed (n base : Nat) (alaw_plan alaw_cell alaw_some : AV) (H : HP) : callF CC (n+1) base "_law_changed" [alaw_plan, alaw_cell, alaw_some] H = s_law_changed (callF CC n) base alaw_plan alaw_cell alaw_some H := by kernel_rfl

noncomputable def s_law_kind_k1 (Φ : Phi) (base : Nat) (ρ : Loc) (H : HP) : RS :=
  sq (retS (some (AV.str "other", H)) ρ) nxt

noncomputable def s_law_kind_k2 (Φ : Phi) (base : Nat) (ρ : Loc) (H : HP) : RS :=
  sq (retS (subI (fun H => listD [(fun H => some (AV.str "many", H)), (fun H => some (AV.str "crew", H)), (fun H => some (AV.str "task", H)), (fun H => some (AV.str "early", H)), (fun H => some (AV.str "twice", H)), (fun H => some (AV.str "worker", H)), (fun H => some (AV.str "step", H))] H) (fun H => methQ base .index (fun H => lkp ρ "_law_kinds" H) [(fun H => some (AV.bool true, H))] H) H) ρ) nxt

noncomputable def s_law_kind_k3 (Φ : Phi) (base : Nat) (ρ : Loc) (H : HP) : RS :=
  sq (iteS (boolB .Or [(fun H => notB (tob (isE CC "ValueError" (lkp ρ "_law_e" H)))), (fun H => tob (bnd (methQ base .count (fun H => lkp ρ "_law_kinds" H) [(fun H => some (AV.bool true, H))] H) (fun a H => cmpA a [.NotEq] [(fun H => some (AV.int 1, H))] H)))] H) (s_law_kind_k1 Φ base ρ) (nxt ρ)) (s_law_kind_k2 Φ base)

noncomputable def s_law_kind_k4 (Φ : Phi) (base : Nat) (ρ : Loc) (H : HP) : RS :=
  sq (asgN "_law_kinds" (binR .Add (fun H => lkp ρ "_law_kinds" H) (fun H => listD [(fun H => isE CC "Twice" (lkp ρ "_law_e" H)), (fun H => isE CC "NoWorker" (lkp ρ "_law_e" H)), (fun H => isE CC "NoStep" (lkp ρ "_law_e" H))] H) H) ρ) (s_law_kind_k3 Φ base)

noncomputable def s_law_kind_q (Φ : Phi) (base : Nat) (ρ : Loc) (H : HP) : RS :=
  sq (asgN "_law_kinds" (listD [(fun H => isE CC "TooMany" (lkp ρ "_law_e" H)), (fun H => isE CC "NoCrew" (lkp ρ "_law_e" H)), (fun H => isE CC "NoTask" (lkp ρ "_law_e" H)), (fun H => isE CC "Early" (lkp ρ "_law_e" H))] H) ρ) (s_law_kind_k4 Φ base)

theorem gq_law_kind (n base : Nat) (alaw_e : AV) (H : HP) : callF CC (n+1) base (qn "_law_kind") [alaw_e] H = finR (s_law_kind_q (callF CC n) base (upd locNil "_law_e" alaw_e) H) := by kernel_rfl

noncomputable def s_law_right_c1 (Φ : Phi) (base : Nat) (ρ : Loc) (H : HP) : R AV :=
  callQ .list [(fun H => lkp ρ "_law_row" H)] H

noncomputable def s_law_right_i2 (Φ : Phi) (base : Nat) (ρ : Loc) (H : HP) : R AV :=
  subI (fun H => lkp ρ "_law_plan" H) (fun H => some (AV.int 0, H)) H

noncomputable def s_law_right_c3 (Φ : Phi) (base : Nat) (ρ : Loc) (H : HP) : R AV :=
  callQ .list [(fun H => lkp ρ "_law_row" H)] H

noncomputable def s_law_right_i4 (Φ : Phi) (base : Nat) (ρ : Loc) (H : HP) : R AV :=
  subI (fun H => lkp ρ "_law_plan" H) (fun H => some (AV.int 1, H)) H

noncomputable def s_law_right_k5 (Φ : Phi) (base : Nat) (ρ : Loc) (H : HP) : RS :=
  sq (retS (boolV .And [(fun H => bnd (lkp ρ "_law_given" H) (fun a H => cmpA a [.Eq] [(fun H => lkp ρ "_law_plan" H)] H)), (fun H => bnd (callP Φ base (qn "_law_kind") [(fun H => lkp ρ "_law_e" H)] H) (fun a H => cmpA a [.Eq] [(fun H => lkp ρ "_law_due" H)] H))] H) ρ) nxt

noncomputable def s_law_right_k6 (Φ : Phi) (base : Nat) (ρ : Loc) (H : HP) : RS :=
  sq (retS (some (AV.bool false, H)) ρ) nxt

noncomputable def s_law_right_b7 (Φ : Phi) (base : Nat) (ρ : Loc) (H : HP) : RS :=
  sq (dropR (methQ base .append (fun H => subI (fun H => lkp ρ "_law_rows" H) (fun H => lkp ρ "_law_k" H) H) [(fun H => lkp ρ "_law_k" H)] H) ρ) nxt

noncomputable def s_law_right_i8 (Φ : Phi) (base : Nat) (ρ : Loc) (H : HP) : R AV :=
  callQ .range [(fun H => callQ .len [(fun H => lkp ρ "_law_rows" H)] H)] H

noncomputable def s_law_right_c9 (Φ : Phi) (base : Nat) (ρ : Loc) (H : HP) : R AV :=
  bnd (subI (fun H => lkp ρ "_law_rows" H) (fun H => lkp ρ "_law_k" H) H) (fun a H => cmpA a [.Eq] [(fun H => binR .Add (fun H => subI (fun H => lkp ρ "_law_kept" H) (fun H => lkp ρ "_law_k" H) H) (fun H => listD [(fun H => lkp ρ "_law_k" H)] H) H)] H)

noncomputable def s_law_right_i10 (Φ : Phi) (base : Nat) (ρ : Loc) (H : HP) : R AV :=
  callQ .range [(fun H => callQ .len [(fun H => lkp ρ "_law_rows" H)] H)] H

noncomputable def s_law_right_k11 (Φ : Phi) (base : Nat) (ρ : Loc) (H : HP) : RS :=
  sq (retS (boolV .And [(fun H => bnd (lkp ρ "_law_given" H) (fun a H => cmpA a [.Eq] [(fun H => lkp ρ "_law_plan" H)] H)), (fun H => callQ .all [(fun H => frozenL (compR tt0 (s_law_right_c9 Φ base) "_law_k" ρ (s_law_right_i10 Φ base ρ) H))] H)] H) ρ) nxt

noncomputable def s_law_right_k12 (Φ : Phi) (base : Nat) (ρ : Loc) (H : HP) : RS :=
  sq (asgN "_law_kept" (binR .Add (fun H => subI (fun H => lkp ρ "_law_plan" H) (fun H => some (AV.int 0, H)) H) (fun H => subI (fun H => lkp ρ "_law_plan" H) (fun H => some (AV.int 1, H)) H) H) ρ) (s_law_right_k11 Φ base)

noncomputable def s_law_right_k13 (Φ : Phi) (base : Nat) (ρ : Loc) (H : HP) : RS :=
  sq (dropR (methQ base .append (fun H => subI (fun H => lkp ρ "_law_found" H) (fun H => some (AV.int 1, H)) H) [(fun H => listD [] H)] H) ρ) (s_law_right_k12 Φ base)

noncomputable def s_law_right_k14 (Φ : Phi) (base : Nat) (ρ : Loc) (H : HP) : RS :=
  sq (dropR (methQ base .append (fun H => subI (fun H => lkp ρ "_law_found" H) (fun H => some (AV.int 0, H)) H) [(fun H => listD [] H)] H) ρ) (s_law_right_k13 Φ base)

noncomputable def s_law_right_k15 (Φ : Phi) (base : Nat) (ρ : Loc) (H : HP) : RS :=
  sq (forR (s_law_right_b7 Φ base) (updName "_law_k") (s_law_right_i8 Φ base ρ) ρ H) (s_law_right_k14 Φ base)

noncomputable def s_law_right_k16 (Φ : Phi) (base : Nat) (ρ : Loc) (H : HP) : RS :=
  sq (asgN "_law_rows" (binR .Add (fun H => subI (fun H => lkp ρ "_law_found" H) (fun H => some (AV.int 0, H)) H) (fun H => subI (fun H => lkp ρ "_law_found" H) (fun H => some (AV.int 1, H)) H) H) ρ) (s_law_right_k15 Φ base)

noncomputable def s_law_right_k17 (Φ : Phi) (base : Nat) (ρ : Loc) (H : HP) : RS :=
  sq (iteS (boolB .Or [(fun H => tob (bnd (lkp ρ "_law_due" H) (fun a H => cmpA a [.NotEq] [(fun H => some (AV.str "", H))] H))), (fun H => tob (bnd (lkp ρ "_law_given" H) (fun a H => cmpA a [.NotEq] [(fun H => lkp ρ "_law_plan" H)] H))), (fun H => notB (tob (callP Φ base "_law_alike" [(fun H => lkp ρ "_law_found" H), (fun H => lkp ρ "_law_plan" H)] H)))] H) (s_law_right_k6 Φ base ρ) (nxt ρ)) (s_law_right_k16 Φ base)

noncomputable def s_law_right_k18 (Φ : Phi) (base : Nat) (ρ : Loc) (H : HP) : RS :=
  sq (tryR CC "YardError" "_law_e" (sq (asgN "_law_found" (callP Φ base "checked" [(fun H => lkp ρ "_law_given" H)] H) ρ) nxt) (rzC Φ base "checked" [(fun H => lkp ρ "_law_given" H)] H) (s_law_right_k5 Φ base) ρ) (s_law_right_k17 Φ base)

noncomputable def s_law_right_k19 (Φ : Phi) (base : Nat) (ρ : Loc) (H : HP) : RS :=
  sq (asgN "_law_due" (callP Φ base "_law_wrong" [(fun H => subI (fun H => lkp ρ "_law_plan" H) (fun H => some (AV.int 0, H)) H), (fun H => subI (fun H => lkp ρ "_law_plan" H) (fun H => some (AV.int 1, H)) H)] H) ρ) (s_law_right_k18 Φ base)

noncomputable def s_law_right_body (Φ : Phi) (base : Nat) (ρ : Loc) (H : HP) : RS :=
  sq (asgN "_law_given" (tupD [(fun H => frozenL (compR tt0 (s_law_right_c1 Φ base) "_law_row" ρ (s_law_right_i2 Φ base ρ) H)), (fun H => frozenL (compR tt0 (s_law_right_c3 Φ base) "_law_row" ρ (s_law_right_i4 Φ base ρ) H))] H) ρ) (s_law_right_k19 Φ base)

noncomputable def s_law_right (Φ : Phi) (base : Nat) (alaw_plan : AV) (H : HP) : R AV :=
  finR (s_law_right_body Φ base (upd locNil "_law_plan" alaw_plan) H)

theorem g_law_right (n base : Nat) (alaw_plan : AV) (H : HP) : callF CC (n+1) base "_law_right" [alaw_plan] H = s_law_right (callF CC n) base alaw_plan H := by kernel_rfl

noncomputable def s_law_b1 (Φ : Phi) (base : Nat) (ρ : Loc) (H : HP) : RS :=
  sq (asgN "_law_plan" (callP Φ base "_law_changed" [(fun H => lkp ρ "_law_plan" H), (fun H => callP Φ base "_law_cell_at" [(fun H => lkp ρ "_law_script" H), (fun H => binR .Add (fun H => some (AV.int 1, H)) (fun H => lkp ρ "_law_k" H) H)] H), (fun H => callP Φ base "_law_cell_at" [(fun H => lkp ρ "_law_script" H), (fun H => binR .Add (fun H => some (AV.int 3, H)) (fun H => lkp ρ "_law_k" H) H)] H)] H) ρ) nxt

noncomputable def s_law_i2 (Φ : Phi) (base : Nat) (ρ : Loc) (H : HP) : R AV :=
  callQ .range [(fun H => binR .Mod (fun H => callP Φ base "_law_cell_at" [(fun H => lkp ρ "_law_script" H), (fun H => some (AV.int 0, H))] H) (fun H => some (AV.int 3, H)) H)] H

noncomputable def s_law_k3 (Φ : Phi) (base : Nat) (ρ : Loc) (H : HP) : RS :=
  sq (retS (boolV .And [(fun H => callP Φ base "_law_right" [(fun H => lkp ρ "_law_plan" H)] H), (fun H => callP Φ base "_law_right" [(fun H => lkp ρ "_law_right_here" H)] H), (fun H => callP Φ base "_law_right" [(fun H => lkp ρ "_law_plan" H)] H)] H) ρ) nxt

noncomputable def s_law_k4 (Φ : Phi) (base : Nat) (ρ : Loc) (H : HP) : RS :=
  sq (forR (s_law_b1 Φ base) (updName "_law_k") (s_law_i2 Φ base ρ) ρ H) (s_law_k3 Φ base)

noncomputable def s_law_k5 (Φ : Phi) (base : Nat) (ρ : Loc) (H : HP) : RS :=
  sq (asgN "_law_plan" (lkp ρ "_law_right_here" H) ρ) (s_law_k4 Φ base)

noncomputable def s_law_body (Φ : Phi) (base : Nat) (ρ : Loc) (H : HP) : RS :=
  sq (asgN "_law_right_here" (callP Φ base "_law_plan_by" [(fun H => lkp ρ "_law_script" H), (fun H => some (AV.int 3, H)), (fun H => some (AV.int 30, H))] H) ρ) (s_law_k5 Φ base)

noncomputable def s_law (Φ : Phi) (base : Nat) (alaw_script : AV) (H : HP) : R AV :=
  finR (s_law_body Φ base (upd locNil "_law_script" alaw_script) H)

theorem g_law (n base : Nat) (alaw_script : AV) (H : HP) : callF CC (n+1) base "law" [alaw_script] H = s_law (callF CC n) base alaw_script H := by kernel_rfl

end Mine

namespace Mine
open PySem PyProof.Rows

noncomputable def planV (brood starts : List (List Int)) : AV := .tup [.list (brood.map iL), .list (starts.map iL)]
theorem sq_none (k : Loc → HP → RS) : sq none k = none := rfl
theorem bnd_no {α β : Type} (f : α → HP → Option β) : bnd (none : R α) f = none := rfl

/-! ### what is wrong in a plan -/
inductive Er where
  | task | early | twice
noncomputable def Er.tag : Er → String
  | .task => "task"
  | .early => "early"
  | .twice => "twice"
noncomputable def Er.adr : Er → Addr
  | .task => 61
  | .early => 73
  | .twice => 85
abbrev Sc := Er ⊕ List Int
noncomputable def scan {α : Type} (f : α → List Int → Sc) : List α → List Int → Sc
  | [], s => .inr s
  | a :: r, s => match f a s with
    | .inl e => .inl e
    | .inr s => scan f r s
noncomputable def one1 (m p t : Int) (s : List Int) : Sc := if t < 0 ∨ m ≤ t then .inl .task else if t ≤ p then .inl .early else if t ∈ s then .inl .twice else .inr (s ++ [t])
noncomputable def row1 (m : Int) (z : Int × List Int) (s : List Int) : Sc := scan (one1 m z.1) z.2 s
theorem scan_append {α : Type} (f : α → List Int → Sc) : ∀ (a b : List α) (s : List Int), scan f (a ++ b) s = match scan f a s with | .inl e => .inl e | .inr s => scan f b s
  | [], b, s => rfl
  | x :: a, b, s => by
    show (match f x s with | .inl e => _ | .inr s => scan f (a ++ b) s) = match (match f x s with | .inl e => _ | .inr s => scan f a s) with | .inl e => _ | .inr s => scan f b s
    cases f x s with
    | inl e => rfl
    | inr s' => exact scan_append f a b s'
theorem scan_len {α : Type} {f : α → List Int → Sc} {wt : α → Nat} (hf : ∀ a s s', f a s = .inr s' → s'.length = s.length + wt a) : ∀ {as : List α} {s s' : List Int}, scan f as s = .inr s' → s'.length = s.length + (as.map wt).sum
  | [], s, s', h => by cases h; rfl
  | a :: r, s, s', h => by
    simp only [scan] at h
    cases hq : f a s with
    | inl e => rw [hq] at h; cases h
    | inr s1 =>
      rw [hq] at h
      rw [scan_len hf h, hf _ _ _ hq, List.map_cons, List.sum_cons, Nat.add_assoc]
theorem one1_len {m p t : Int} {s s' : List Int} (h : one1 m p t s = .inr s') : s'.length = s.length + 1 := by
  unfold one1 at h
  split at h
  · cases h
  split at h
  · cases h
  split at h
  · cases h
  cases h
  simp
theorem sum_ones : ∀ l : List Int, (l.map fun _ => 1).sum = l.length
  | [] => rfl
  | _ :: r => by rw [List.map_cons, List.sum_cons, sum_ones r, List.length_cons, Nat.add_comm]
theorem row1_len {m : Int} {z : Int × List Int} {s s' : List Int} (h : row1 m z s = .inr s') : s'.length = s.length + z.2.length := by
  rw [scan_len (wt := fun _ => 1) (fun _ _ _ => one1_len) h, sum_ones]

/-- a loop that goes on or raises -/
theorem loop_rz {α : Type} {body : Loc → HP → RS} {rb : Loc → HP → R Addr} {tgt : AV → Loc → Option Loc} {f : α → List Int → Sc} {hp : List Int → HP} {P : Loc → Prop} {v : α → AV} {wt : α → Nat} {N : Nat}
    (hf : ∀ a s s', f a s = .inr s' → s'.length = s.length + wt a)
    (step : ∀ a s ρ, P ρ → s.length + wt a ≤ N → ∃ ρ1, tgt (v a) ρ = some ρ1 ∧ match f a s with
      | .inr s' => ∃ ρ', body ρ1 (hp s) = some (.next, ρ', hp s') ∧ P ρ'
      | .inl e => body ρ1 (hp s) = none ∧ ∃ H', rb ρ1 (hp s) = some (e.adr, H')) :
    ∀ (as : List α) (s : List Int) (ρ : Loc), P ρ → s.length + (as.map wt).sum ≤ N → match scan f as s with
      | .inr s' => ∃ ρ', forL body tgt (as.map v) ρ (hp s) = some (.next, ρ', hp s') ∧ P ρ'
      | .inl e => forL body tgt (as.map v) ρ (hp s) = none ∧ ∃ H', rzL body rb tgt (as.map v) ρ (hp s) = some (e.adr, H')
  | [], s, ρ, h, _ => ⟨ρ, rfl, h⟩
  | a :: r, s, ρ, h, hN => by
    rw [List.map_cons, List.sum_cons] at hN
    obtain ⟨ρ1, h1, h2⟩ := step a s ρ h (by lia)
    have e1 : forL body tgt ((a :: r).map v) ρ (hp s) = sq (body ρ1 (hp s)) fun ρ H => forL body tgt (r.map v) ρ H := by
      rw [List.map_cons, forL, h1]
    have e2 : rzL body rb tgt ((a :: r).map v) ρ (hp s) = rzq (body ρ1 (hp s)) (fun ρ H => rzL body rb tgt (r.map v) ρ H) (rb ρ1 (hp s)) := by
      rw [List.map_cons, rzL, h1]
    rw [e1, e2]
    simp only [scan]
    cases hq : f a s with
    | inl e =>
      rw [hq] at h2
      obtain ⟨h2, H', h3⟩ := h2
      rw [h2, h3]
      exact ⟨rfl, H', rfl⟩
    | inr s1 =>
      rw [hq] at h2
      obtain ⟨ρ', h2, h3⟩ := h2
      rw [h2]
      exact loop_rz hf step r s1 ρ' h3 (by rw [hf _ _ _ hq]; lia)
/-- a loop that goes on or returns -/
theorem loop_rt {α : Type} {body : Loc → HP → RS} {tgt : AV → Loc → Option Loc} {f : α → List Int → Sc} {hp : List Int → HP} {P : Loc → Prop} {v : α → AV} {wt : α → Nat} {N : Nat}
    (hf : ∀ a s s', f a s = .inr s' → s'.length = s.length + wt a)
    (step : ∀ a s ρ, P ρ → s.length + wt a ≤ N → ∃ ρ1, tgt (v a) ρ = some ρ1 ∧ match f a s with
      | .inr s' => ∃ ρ', body ρ1 (hp s) = some (.next, ρ', hp s') ∧ P ρ'
      | .inl e => ∃ ρ' H', body ρ1 (hp s) = some (.ret (.str (Str.ofString e.tag)), ρ', H')) :
    ∀ (as : List α) (s : List Int) (ρ : Loc), P ρ → s.length + (as.map wt).sum ≤ N → match scan f as s with
      | .inr s' => ∃ ρ', forL body tgt (as.map v) ρ (hp s) = some (.next, ρ', hp s') ∧ P ρ'
      | .inl e => ∃ ρ' H', forL body tgt (as.map v) ρ (hp s) = some (.ret (.str (Str.ofString e.tag)), ρ', H')
  | [], s, ρ, h, _ => ⟨ρ, rfl, h⟩
  | a :: r, s, ρ, h, hN => by
    rw [List.map_cons, List.sum_cons] at hN
    obtain ⟨ρ1, h1, h2⟩ := step a s ρ h (by lia)
    have e1 : forL body tgt ((a :: r).map v) ρ (hp s) = sq (body ρ1 (hp s)) fun ρ H => forL body tgt (r.map v) ρ H := by
      rw [List.map_cons, forL, h1]
    rw [e1]
    simp only [scan]
    cases hq : f a s with
    | inl e =>
      rw [hq] at h2
      obtain ⟨ρ', H', h2⟩ := h2
      rw [h2]
      exact ⟨ρ', H', rfl⟩
    | inr s1 =>
      rw [hq] at h2
      obtain ⟨ρ', h2, h3⟩ := h2
      rw [h2]
      exact loop_rt hf step r s1 ρ' h3 (by rw [hf _ _ _ hq]; lia)

/-! ### what is seen: a dict here, a list there -/
noncomputable def dS (s : List Int) : List AV := s.map fun t => ent t (.bool true)
theorem dKey_dS (t : Int) : ∀ s : List Int, dKey t (dS s) = decide (t ∈ s)
  | [] => rfl
  | a :: r => by
    show (decide (a = t) || dKey t (dS r)) = _
    rw [dKey_dS t r]
    by_cases h : a = t
    · subst h; simp
    · have h' : ¬ t = a := fun q => h q.symm
      simp [h, h']
theorem last_get (H : HP) (x : List AV) : (H ++ [x])[H.length]? = some x := by simp
theorem last_set (H : HP) (x y : List AV) : setAO (H ++ [x]) H.length y = H ++ [y] := by
  unfold setAO; rw [List.set_append_right _ _ (Nat.le_refl _), Nat.sub_self]; rfl
theorem in_dct (H : HP) (s : List Int) (t : Int) : inV (H ++ [dS s]) (.int t) (.dct H.length) = some (decide (t ∈ s)) := by
  show ((H ++ [dS s])[H.length]?).map (dKey t) = _
  rw [last_get, Option.map_some, dKey_dS]
theorem set_dct {H : HP} {s : List Int} {t : Int} (h : t ∉ s) (hl : s.length < sizeMax) : setItem (H ++ [dS s]) (.dct H.length) (.int t) (.bool true) = some (H ++ [dS (s ++ [t])]) := by
  show (match (H ++ [dS s])[H.length]? with | some es => if (scalV (.bool true) && decide (es.length < sizeMax)) = true then some (setAO (H ++ [dS s]) H.length (dStore es t (.bool true))) else none | none => none) = _
  rw [last_get]
  show (if (true && decide ((dS s).length < sizeMax)) = true then _ else none) = _
  have hd : dStore (dS s) t (.bool true) = dS (s ++ [t]) := by
    unfold dStore
    rw [dKey_dS, decide_eq_false h]
    simp [dS]
  have h2 : (dS s).length < sizeMax := by rw [dS, List.length_map]; exact hl
  rw [decide_eq_true h2, Bool.and_self, if_pos rfl, hd, last_set]
theorem eqv_ints (t : Int) : ∀ s : List Int, ((toPys (rowO s)).any fun y => PyData.eqv y (toPy (.int t))) = decide (t ∈ s)
  | [] => rfl
  | a :: r => by
    show ((a == t) || _) = _
    rw [show ((toPys (r.map AV.int)).any fun y => PyData.eqv y (toPy (.int t))) = decide (t ∈ r) from eqv_ints t r]
    by_cases h : a = t
    · subst h; simp
    · have h' : ¬ t = a := fun q => h q.symm
      simp [h, h']
theorem in_row (H : HP) (s : List Int) (t : Int) : inV (H ++ [rowO s]) (.int t) (.ref H.length) = some (decide (t ∈ s)) := by
  show inS (H ++ [rowO s]) (.int t) (.ref H.length) = _
  unfold inS
  rw [itemsOf_ref (last_get H (rowO s))]
  show (if (okD dMax (.list (rowO s)) && okD dMax (.int t)) = true then _ else none) = _
  rw [show okD dMax (.list (rowO s)) = true from okD_iL (n := 11) s, show okD dMax (.int t) = true from rfl, Bool.and_self, if_pos rfl, eqv_ints]
/-! ### checked -/
theorem rzq_none (k : Loc → HP → R Addr) (x : R Addr) : rzq none k x = x := rfl
theorem rzq_next (ρ : Loc) (H : HP) (k : Loc → HP → R Addr) (x : R Addr) : rzq (some (.next, ρ, H)) k x = k ρ H := rfl
theorem rzI_true (H : HP) (a b : HP → R Addr) : rzI (some (true, H)) a b = a H := rfl
theorem rzI_false (H : HP) (a b : HP → R Addr) : rzI (some (false, H)) a b = b H := rfl
theorem objR_ok (D : Addr) (H : HP) : objR (some (D, H)) = some (.obj D, H) := rfl
theorem finR_no : finR none = none := rfl
theorem exV_ok (D : Addr) (H : HP) : exV (some (.obj D, H)) = some (D, H) := rfl
theorem need_task_ok (n base : Nat) {t m : Int} (H : HP) (h1 : ¬ t < 0) (h2 : ¬ m ≤ t) : callF CC (n+1) base "need_task" [.int t, .int m] H = some (.none, H) := by
  rw [g_need_task]
  simp only [s_need_task, s_need_task_body, h1, h2, Qa, Qb, Qc, Qd, Qe, Qf, retS, nxt, asgN, asgT, Qg, Qh, Qi, Qj, Qk, Ql, Qm, Qn, ne_eq, binR, Qo, Qp, subI, subS, noneE, listD, tupD, Qq, Qr, callP, callQ, Qs, Qt, Qu, Qv, callLen, Qw, Qx, Qy, Qz, QA, QB, QC, QD, QE, QF, QG, QH, QI, QJ, QK, QL, QM, QN, QO, QP, QQ, QR, QS, tob, QT, notB, notV, QU, QV, QW, QX, QY, QZ, Q0, cond_true, cond_false, isR, Q1, Q2, Q3, Q4, Q5, isTup, isLis, isStr, isInt, isBoo, updTup, updAll, updName, Q6, Q7, Q8, Q9, Za, Zb, Zc, Zd, Ze, Zf, Zg, sz0, sz1, sz2, sz3, sz4, sz5, Zh, Zi, Zj, List.map_cons, List.map_nil, List.length_cons, List.length_nil, List.length_map, List.any_cons, List.any_nil, id, if_true, if_false, Bool.not_true, Bool.not_false, Bool.or_false, Bool.false_or, Bool.or_true, Bool.true_or, Bool.and_true, Bool.true_and, Bool.and_false, Bool.false_and, Option.map_some, Option.map_none, decide_true, decide_false, String.reduceEq, reduceIte, Nat.reduceAdd, Int.reduceLT, Int.reduceLE, Nat.reduceLeDiff, Bool.false_eq_true, reduceCtorEq, not_false_eq_true, not_true_eq_false, decide_not]
theorem need_task_no (n base : Nat) {t m : Int} (H : HP) (h : t < 0 ∨ m ≤ t) : callF CC (n+1) base "need_task" [.int t, .int m] H = none ∧ callF CC (n+1) base (bang "need_task") [.int t, .int m] H = some (.obj 61, H) := by
  rw [g_need_task, gx_need_task]
  by_cases h1 : t < 0
  · exact ⟨by simp only [s_need_task, s_need_task_body, s_need_task_k1, h1, sq_none, finR_no, Qa, Qb, Qc, Qd, Qe, Qf, retS, nxt, asgN, asgT, Qg, Qh, Qi, Qj, Qk, Ql, Qm, Qn, ne_eq, binR, Qo, Qp, subI, subS, noneE, listD, tupD, Qq, Qr, callP, callQ, Qs, Qt, Qu, Qv, callLen, Qw, Qx, Qy, Qz, QA, QB, QC, QD, QE, QF, QG, QH, QI, QJ, QK, QL, QM, QN, QO, QP, QQ, QR, QS, tob, QT, notB, notV, QU, QV, QW, QX, QY, QZ, Q0, cond_true, cond_false, isR, Q1, Q2, Q3, Q4, Q5, isTup, isLis, isStr, isInt, isBoo, updTup, updAll, updName, Q6, Q7, Q8, Q9, Za, Zb, Zc, Zd, Ze, Zf, Zg, sz0, sz1, sz2, sz3, sz4, sz5, Zh, Zi, Zj, List.map_cons, List.map_nil, List.length_cons, List.length_nil, List.length_map, List.any_cons, List.any_nil, id, if_true, if_false, Bool.not_true, Bool.not_false, Bool.or_false, Bool.false_or, Bool.or_true, Bool.true_or, Bool.and_true, Bool.true_and, Bool.and_false, Bool.false_and, Option.map_some, Option.map_none, decide_true, decide_false, String.reduceEq, reduceIte, Nat.reduceAdd, Int.reduceLT, Int.reduceLE, Nat.reduceLeDiff, Bool.false_eq_true, reduceCtorEq, not_false_eq_true, not_true_eq_false, decide_not], by simp only [s_need_task_rz, s_need_task_k1, s_need_task_x2, h1, sq_none, rzq_none, rzI_true, objR_ok, Qa, Qb, Qc, Qd, Qe, Qf, retS, nxt, asgN, asgT, Qg, Qh, Qi, Qj, Qk, Ql, Qm, Qn, ne_eq, binR, Qo, Qp, subI, subS, noneE, listD, tupD, Qq, Qr, callP, callQ, Qs, Qt, Qu, Qv, callLen, Qw, Qx, Qy, Qz, QA, QB, QC, QD, QE, QF, QG, QH, QI, QJ, QK, QL, QM, QN, QO, QP, QQ, QR, QS, tob, QT, notB, notV, QU, QV, QW, QX, QY, QZ, Q0, cond_true, cond_false, isR, Q1, Q2, Q3, Q4, Q5, isTup, isLis, isStr, isInt, isBoo, updTup, updAll, updName, Q6, Q7, Q8, Q9, Za, Zb, Zc, Zd, Ze, Zf, Zg, sz0, sz1, sz2, sz3, sz4, sz5, Zh, Zi, Zj, List.map_cons, List.map_nil, List.length_cons, List.length_nil, List.length_map, List.any_cons, List.any_nil, id, if_true, if_false, Bool.not_true, Bool.not_false, Bool.or_false, Bool.false_or, Bool.or_true, Bool.true_or, Bool.and_true, Bool.true_and, Bool.and_false, Bool.false_and, Option.map_some, Option.map_none, decide_true, decide_false, String.reduceEq, reduceIte, Nat.reduceAdd, Int.reduceLT, Int.reduceLE, Nat.reduceLeDiff, Bool.false_eq_true, reduceCtorEq, not_false_eq_true, not_true_eq_false, decide_not]⟩
  · have h2 : m ≤ t := h.resolve_left h1
    exact ⟨by simp only [s_need_task, s_need_task_body, s_need_task_k1, h1, h2, sq_none, finR_no, Qa, Qb, Qc, Qd, Qe, Qf, retS, nxt, asgN, asgT, Qg, Qh, Qi, Qj, Qk, Ql, Qm, Qn, ne_eq, binR, Qo, Qp, subI, subS, noneE, listD, tupD, Qq, Qr, callP, callQ, Qs, Qt, Qu, Qv, callLen, Qw, Qx, Qy, Qz, QA, QB, QC, QD, QE, QF, QG, QH, QI, QJ, QK, QL, QM, QN, QO, QP, QQ, QR, QS, tob, QT, notB, notV, QU, QV, QW, QX, QY, QZ, Q0, cond_true, cond_false, isR, Q1, Q2, Q3, Q4, Q5, isTup, isLis, isStr, isInt, isBoo, updTup, updAll, updName, Q6, Q7, Q8, Q9, Za, Zb, Zc, Zd, Ze, Zf, Zg, sz0, sz1, sz2, sz3, sz4, sz5, Zh, Zi, Zj, List.map_cons, List.map_nil, List.length_cons, List.length_nil, List.length_map, List.any_cons, List.any_nil, id, if_true, if_false, Bool.not_true, Bool.not_false, Bool.or_false, Bool.false_or, Bool.or_true, Bool.true_or, Bool.and_true, Bool.true_and, Bool.and_false, Bool.false_and, Option.map_some, Option.map_none, decide_true, decide_false, String.reduceEq, reduceIte, Nat.reduceAdd, Int.reduceLT, Int.reduceLE, Nat.reduceLeDiff, Bool.false_eq_true, reduceCtorEq, not_false_eq_true, not_true_eq_false, decide_not], by simp only [s_need_task_rz, s_need_task_k1, s_need_task_x2, h1, h2, sq_none, rzq_none, rzI_true, objR_ok, Qa, Qb, Qc, Qd, Qe, Qf, retS, nxt, asgN, asgT, Qg, Qh, Qi, Qj, Qk, Ql, Qm, Qn, ne_eq, binR, Qo, Qp, subI, subS, noneE, listD, tupD, Qq, Qr, callP, callQ, Qs, Qt, Qu, Qv, callLen, Qw, Qx, Qy, Qz, QA, QB, QC, QD, QE, QF, QG, QH, QI, QJ, QK, QL, QM, QN, QO, QP, QQ, QR, QS, tob, QT, notB, notV, QU, QV, QW, QX, QY, QZ, Q0, cond_true, cond_false, isR, Q1, Q2, Q3, Q4, Q5, isTup, isLis, isStr, isInt, isBoo, updTup, updAll, updName, Q6, Q7, Q8, Q9, Za, Zb, Zc, Zd, Ze, Zf, Zg, sz0, sz1, sz2, sz3, sz4, sz5, Zh, Zi, Zj, List.map_cons, List.map_nil, List.length_cons, List.length_nil, List.length_map, List.any_cons, List.any_nil, id, if_true, if_false, Bool.not_true, Bool.not_false, Bool.or_false, Bool.false_or, Bool.or_true, Bool.true_or, Bool.and_true, Bool.true_and, Bool.and_false, Bool.false_and, Option.map_some, Option.map_none, decide_true, decide_false, String.reduceEq, reduceIte, Nat.reduceAdd, Int.reduceLT, Int.reduceLE, Nat.reduceLeDiff, Bool.false_eq_true, reduceCtorEq, not_false_eq_true, not_true_eq_false, decide_not]⟩
theorem need_new_ok (n base : Nat) {t : Int} {s : List Int} (H : HP) (h : t ∉ s) (hl : s.length < sizeMax) : callF CC (n+1) base "need_new" [.int t, .dct H.length] (H ++ [dS s]) = some (.none, H ++ [dS (s ++ [t])]) := by
  rw [g_need_new]
  simp only [s_need_new, s_need_new_body, s_need_new_k2, in_dct, h, asgI, set_dct h hl, Qa, Qb, Qc, Qd, Qe, Qf, retS, nxt, asgN, asgT, Qg, Qh, Qi, Qj, Qk, Ql, Qm, Qn, ne_eq, binR, Qo, Qp, subI, subS, noneE, listD, tupD, Qq, Qr, callP, callQ, Qs, Qt, Qu, Qv, callLen, Qw, Qx, Qy, Qz, QA, QB, QC, QD, QE, QF, QG, QH, QI, QJ, QK, QL, QM, QN, QO, QP, QQ, QR, QS, tob, QT, notB, notV, QU, QV, QW, QX, QY, QZ, Q0, cond_true, cond_false, isR, Q1, Q2, Q3, Q4, Q5, isTup, isLis, isStr, isInt, isBoo, updTup, updAll, updName, Q6, Q7, Q8, Q9, Za, Zb, Zc, Zd, Ze, Zf, Zg, sz0, sz1, sz2, sz3, sz4, sz5, Zh, Zi, Zj, List.map_cons, List.map_nil, List.length_cons, List.length_nil, List.length_map, List.any_cons, List.any_nil, id, if_true, if_false, Bool.not_true, Bool.not_false, Bool.or_false, Bool.false_or, Bool.or_true, Bool.true_or, Bool.and_true, Bool.true_and, Bool.and_false, Bool.false_and, Option.map_some, Option.map_none, decide_true, decide_false, String.reduceEq, reduceIte, Nat.reduceAdd, Int.reduceLT, Int.reduceLE, Nat.reduceLeDiff, Bool.false_eq_true, reduceCtorEq, not_false_eq_true, not_true_eq_false, decide_not]
theorem need_new_no (n base : Nat) {t : Int} {s : List Int} (H : HP) (h : t ∈ s) : callF CC (n+1) base "need_new" [.int t, .dct H.length] (H ++ [dS s]) = none ∧ callF CC (n+1) base (bang "need_new") [.int t, .dct H.length] (H ++ [dS s]) = some (.obj 85, H ++ [dS s]) := by
  rw [g_need_new, gx_need_new]
  exact ⟨by simp only [s_need_new, s_need_new_body, s_need_new_k1, in_dct, h, sq_none, finR_no, Qa, Qb, Qc, Qd, Qe, Qf, retS, nxt, asgN, asgT, Qg, Qh, Qi, Qj, Qk, Ql, Qm, Qn, ne_eq, binR, Qo, Qp, subI, subS, noneE, listD, tupD, Qq, Qr, callP, callQ, Qs, Qt, Qu, Qv, callLen, Qw, Qx, Qy, Qz, QA, QB, QC, QD, QE, QF, QG, QH, QI, QJ, QK, QL, QM, QN, QO, QP, QQ, QR, QS, tob, QT, notB, notV, QU, QV, QW, QX, QY, QZ, Q0, cond_true, cond_false, isR, Q1, Q2, Q3, Q4, Q5, isTup, isLis, isStr, isInt, isBoo, updTup, updAll, updName, Q6, Q7, Q8, Q9, Za, Zb, Zc, Zd, Ze, Zf, Zg, sz0, sz1, sz2, sz3, sz4, sz5, Zh, Zi, Zj, List.map_cons, List.map_nil, List.length_cons, List.length_nil, List.length_map, List.any_cons, List.any_nil, id, if_true, if_false, Bool.not_true, Bool.not_false, Bool.or_false, Bool.false_or, Bool.or_true, Bool.true_or, Bool.and_true, Bool.true_and, Bool.and_false, Bool.false_and, Option.map_some, Option.map_none, decide_true, decide_false, String.reduceEq, reduceIte, Nat.reduceAdd, Int.reduceLT, Int.reduceLE, Nat.reduceLeDiff, Bool.false_eq_true, reduceCtorEq, not_false_eq_true, not_true_eq_false, decide_not], by simp only [s_need_new_rz, s_need_new_k1, s_need_new_x4, in_dct, h, sq_none, rzq_none, rzI_true, objR_ok, Qa, Qb, Qc, Qd, Qe, Qf, retS, nxt, asgN, asgT, Qg, Qh, Qi, Qj, Qk, Ql, Qm, Qn, ne_eq, binR, Qo, Qp, subI, subS, noneE, listD, tupD, Qq, Qr, callP, callQ, Qs, Qt, Qu, Qv, callLen, Qw, Qx, Qy, Qz, QA, QB, QC, QD, QE, QF, QG, QH, QI, QJ, QK, QL, QM, QN, QO, QP, QQ, QR, QS, tob, QT, notB, notV, QU, QV, QW, QX, QY, QZ, Q0, cond_true, cond_false, isR, Q1, Q2, Q3, Q4, Q5, isTup, isLis, isStr, isInt, isBoo, updTup, updAll, updName, Q6, Q7, Q8, Q9, Za, Zb, Zc, Zd, Ze, Zf, Zg, sz0, sz1, sz2, sz3, sz4, sz5, Zh, Zi, Zj, List.map_cons, List.map_nil, List.length_cons, List.length_nil, List.length_map, List.any_cons, List.any_nil, id, if_true, if_false, Bool.not_true, Bool.not_false, Bool.or_false, Bool.false_or, Bool.or_true, Bool.true_or, Bool.and_true, Bool.true_and, Bool.and_false, Bool.false_and, Option.map_some, Option.map_none, decide_true, decide_false, String.reduceEq, reduceIte, Nat.reduceAdd, Int.reduceLT, Int.reduceLE, Nat.reduceLeDiff, Bool.false_eq_true, reduceCtorEq, not_false_eq_true, not_true_eq_false, decide_not]⟩

section
variable {n base : Nat} {H : HP} {brood starts : List (List Int)} {N : Nat}
structure CE (H : HP) (brood starts : List (List Int)) (ρ : Loc) : Prop where
  br : ρ "brood" = some (.list (brood.map iL))
  st : ρ "starts" = some (.list (starts.map iL))
  se : ρ "seen" = some (.dct H.length)
structure CP (H : HP) (brood starts : List (List Int)) (p : Int) (ρ : Loc) : Prop where
  c : CE H brood starts ρ
  ta : ρ "task" = some (.int p)
theorem CE.up {ρ : Loc} (c : CE H brood starts ρ) {x : String} (v : AV) (h1 : x ≠ "brood") (h2 : x ≠ "starts") (h3 : x ≠ "seen") : CE H brood starts (upd ρ (Str.ofString x) v) :=
  ⟨(Qm _ _ _ _ (by rw [ne_eq, Qn]; exact h1.symm)).trans c.br, (Qm _ _ _ _ (by rw [ne_eq, Qn]; exact h2.symm)).trans c.st, (Qm _ _ _ _ (by rw [ne_eq, Qn]; exact h3.symm)).trans c.se⟩
theorem CP.up {p : Int} {ρ : Loc} (c : CP H brood starts p ρ) (v : AV) : CP H brood starts p (upd ρ "number" v) :=
  ⟨c.c.up v (by decide) (by decide) (by decide), (Qm _ _ _ _ (by rw [ne_eq, Qn]; decide)).trans c.ta⟩
theorem len_br (brood : List (List Int)) (G : HP) : callLen G (.list (brood.map iL)) = some (.int (brood.length : Int)) := by
  simp only [callLen, Qx, Option.map_some, List.length_map]
theorem body_br (hN : N ≤ sizeMax) {p : Int} (t : Int) (s : List Int) (ρ : Loc) (c : CP H brood starts p ρ) (hs : s.length + 1 ≤ N) : ∃ ρ1, updName "number" (.int t) ρ = some ρ1 ∧ match one1 (brood.length : Int) p t s with
      | .inr s' => ∃ ρ', s_checked_b4 (callF CC (n+1)) base ρ1 (H ++ [dS s]) = some (.next, ρ', H ++ [dS s']) ∧ CP H brood starts p ρ'
      | .inl e => s_checked_b4 (callF CC (n+1)) base ρ1 (H ++ [dS s]) = none ∧ ∃ H', s_checked_x28 (callF CC (n+1)) base ρ1 (H ++ [dS s]) = some (e.adr, H') := by
  refine ⟨upd ρ "number" (.int t), rfl, ?_⟩
  have c' := c.up (.int t)
  have k : ∀ G, lkp (upd ρ "number" (.int t)) "number" G = some (.int t, G) := fun G => Qj _ _ _ _
  generalize upd ρ "number" (.int t) = ρ' at c' k
  unfold one1
  by_cases h1 : t < 0 ∨ (brood.length : Int) ≤ t
  · rw [if_pos h1]
    obtain ⟨a, b⟩ := need_task_no n base (H ++ [dS s]) h1
    exact ⟨by simp only [s_checked_b4, k, lkp_some c'.c.br, len_br, a, sq_none, bnd_no, dropR, Qa, Qb, Qc, Qd, Qe, Qf, retS, nxt, asgN, asgT, Qg, Qh, Qi, Qj, Qk, Ql, Qm, Qn, ne_eq, binR, Qo, Qp, subI, subS, noneE, listD, tupD, Qq, Qr, callP, callQ, Qs, Qt, Qu, Qv, callLen, Qw, Qx, Qy, Qz, QA, QB, QC, QD, QE, QF, QG, QH, QI, QJ, QK, QL, QM, QN, QO, QP, QQ, QR, QS, tob, QT, notB, notV, QU, QV, QW, QX, QY, QZ, Q0, cond_true, cond_false, isR, Q1, Q2, Q3, Q4, Q5, isTup, isLis, isStr, isInt, isBoo, updTup, updAll, updName, Q6, Q7, Q8, Q9, Za, Zb, Zc, Zd, Ze, Zf, Zg, sz0, sz1, sz2, sz3, sz4, sz5, Zh, Zi, Zj, List.map_cons, List.map_nil, List.length_cons, List.length_nil, List.length_map, List.any_cons, List.any_nil, id, if_true, if_false, Bool.not_true, Bool.not_false, Bool.or_false, Bool.false_or, Bool.or_true, Bool.true_or, Bool.and_true, Bool.true_and, Bool.and_false, Bool.false_and, Option.map_some, Option.map_none, decide_true, decide_false, String.reduceEq, reduceIte, Nat.reduceAdd, Int.reduceLT, Int.reduceLE, Nat.reduceLeDiff, Bool.false_eq_true, reduceCtorEq, not_false_eq_true, not_true_eq_false, decide_not], H ++ [dS s], by simp only [s_checked_x28, k, lkp_some c'.c.br, len_br, a, b, bnd_no, dropR, rzq_none, rzC, exV_ok, Er.adr, Qa, Qb, Qc, Qd, Qe, Qf, retS, nxt, asgN, asgT, Qg, Qh, Qi, Qj, Qk, Ql, Qm, Qn, ne_eq, binR, Qo, Qp, subI, subS, noneE, listD, tupD, Qq, Qr, callP, callQ, Qs, Qt, Qu, Qv, callLen, Qw, Qx, Qy, Qz, QA, QB, QC, QD, QE, QF, QG, QH, QI, QJ, QK, QL, QM, QN, QO, QP, QQ, QR, QS, tob, QT, notB, notV, QU, QV, QW, QX, QY, QZ, Q0, cond_true, cond_false, isR, Q1, Q2, Q3, Q4, Q5, isTup, isLis, isStr, isInt, isBoo, updTup, updAll, updName, Q6, Q7, Q8, Q9, Za, Zb, Zc, Zd, Ze, Zf, Zg, sz0, sz1, sz2, sz3, sz4, sz5, Zh, Zi, Zj, List.map_cons, List.map_nil, List.length_cons, List.length_nil, List.length_map, List.any_cons, List.any_nil, id, if_true, if_false, Bool.not_true, Bool.not_false, Bool.or_false, Bool.false_or, Bool.or_true, Bool.true_or, Bool.and_true, Bool.true_and, Bool.and_false, Bool.false_and, Option.map_some, Option.map_none, decide_true, decide_false, String.reduceEq, reduceIte, Nat.reduceAdd, Int.reduceLT, Int.reduceLE, Nat.reduceLeDiff, Bool.false_eq_true, reduceCtorEq, not_false_eq_true, not_true_eq_false, decide_not]⟩
  rw [if_neg h1]
  have a := need_task_ok n base (t := t) (m := (brood.length : Int)) (H ++ [dS s]) (fun q => h1 (.inl q)) (fun q => h1 (.inr q))
  by_cases h2 : t ≤ p
  · rw [if_pos h2]
    exact ⟨by simp only [s_checked_b4, s_checked_k3, s_checked_k1, k, lkp_some c'.c.br, lkp_some c'.ta, len_br, a, h2, sq_none, Qa, Qb, Qc, Qd, Qe, Qf, retS, nxt, asgN, asgT, Qg, Qh, Qi, Qj, Qk, Ql, Qm, Qn, ne_eq, binR, Qo, Qp, subI, subS, noneE, listD, tupD, Qq, Qr, callP, callQ, Qs, Qt, Qu, Qv, callLen, Qw, Qx, Qy, Qz, QA, QB, QC, QD, QE, QF, QG, QH, QI, QJ, QK, QL, QM, QN, QO, QP, QQ, QR, QS, tob, QT, notB, notV, QU, QV, QW, QX, QY, QZ, Q0, cond_true, cond_false, isR, Q1, Q2, Q3, Q4, Q5, isTup, isLis, isStr, isInt, isBoo, updTup, updAll, updName, Q6, Q7, Q8, Q9, Za, Zb, Zc, Zd, Ze, Zf, Zg, sz0, sz1, sz2, sz3, sz4, sz5, Zh, Zi, Zj, List.map_cons, List.map_nil, List.length_cons, List.length_nil, List.length_map, List.any_cons, List.any_nil, id, if_true, if_false, Bool.not_true, Bool.not_false, Bool.or_false, Bool.false_or, Bool.or_true, Bool.true_or, Bool.and_true, Bool.true_and, Bool.and_false, Bool.false_and, Option.map_some, Option.map_none, decide_true, decide_false, String.reduceEq, reduceIte, Nat.reduceAdd, Int.reduceLT, Int.reduceLE, Nat.reduceLeDiff, Bool.false_eq_true, reduceCtorEq, not_false_eq_true, not_true_eq_false, decide_not], H ++ [dS s], by simp only [s_checked_x28, s_checked_x27, s_checked_x26, s_checked_k1, k, lkp_some c'.c.br, lkp_some c'.ta, len_br, a, h2, sq_none, rzq_none, rzq_next, rzI_true, Er.adr, Qa, Qb, Qc, Qd, Qe, Qf, retS, nxt, asgN, asgT, Qg, Qh, Qi, Qj, Qk, Ql, Qm, Qn, ne_eq, binR, Qo, Qp, subI, subS, noneE, listD, tupD, Qq, Qr, callP, callQ, Qs, Qt, Qu, Qv, callLen, Qw, Qx, Qy, Qz, QA, QB, QC, QD, QE, QF, QG, QH, QI, QJ, QK, QL, QM, QN, QO, QP, QQ, QR, QS, tob, QT, notB, notV, QU, QV, QW, QX, QY, QZ, Q0, cond_true, cond_false, isR, Q1, Q2, Q3, Q4, Q5, isTup, isLis, isStr, isInt, isBoo, updTup, updAll, updName, Q6, Q7, Q8, Q9, Za, Zb, Zc, Zd, Ze, Zf, Zg, sz0, sz1, sz2, sz3, sz4, sz5, Zh, Zi, Zj, List.map_cons, List.map_nil, List.length_cons, List.length_nil, List.length_map, List.any_cons, List.any_nil, id, if_true, if_false, Bool.not_true, Bool.not_false, Bool.or_false, Bool.false_or, Bool.or_true, Bool.true_or, Bool.and_true, Bool.true_and, Bool.and_false, Bool.false_and, Option.map_some, Option.map_none, decide_true, decide_false, String.reduceEq, reduceIte, Nat.reduceAdd, Int.reduceLT, Int.reduceLE, Nat.reduceLeDiff, Bool.false_eq_true, reduceCtorEq, not_false_eq_true, not_true_eq_false, decide_not]⟩
  rw [if_neg h2]
  by_cases h3 : t ∈ s
  · rw [if_pos h3]
    obtain ⟨u, v⟩ := need_new_no n base H h3
    exact ⟨by simp only [s_checked_b4, s_checked_k3, s_checked_k2, k, lkp_some c'.c.br, lkp_some c'.c.se, lkp_some c'.ta, len_br, a, u, h2, sq_none, bnd_no, dropR, QN, Qa, Qb, Qc, Qd, Qe, Qf, retS, nxt, asgN, asgT, Qg, Qh, Qi, Qj, Qk, Ql, Qm, Qn, ne_eq, binR, Qo, Qp, subI, subS, noneE, listD, tupD, Qq, Qr, callP, callQ, Qs, Qt, Qu, Qv, callLen, Qw, Qx, Qy, Qz, QA, QB, QC, QD, QE, QF, QG, QH, QI, QJ, QK, QL, QM, QN, QO, QP, QQ, QR, QS, tob, QT, notB, notV, QU, QV, QW, QX, QY, QZ, Q0, cond_true, cond_false, isR, Q1, Q2, Q3, Q4, Q5, isTup, isLis, isStr, isInt, isBoo, updTup, updAll, updName, Q6, Q7, Q8, Q9, Za, Zb, Zc, Zd, Ze, Zf, Zg, sz0, sz1, sz2, sz3, sz4, sz5, Zh, Zi, Zj, List.map_cons, List.map_nil, List.length_cons, List.length_nil, List.length_map, List.any_cons, List.any_nil, id, if_true, if_false, Bool.not_true, Bool.not_false, Bool.or_false, Bool.false_or, Bool.or_true, Bool.true_or, Bool.and_true, Bool.true_and, Bool.and_false, Bool.false_and, Option.map_some, Option.map_none, decide_true, decide_false, String.reduceEq, reduceIte, Nat.reduceAdd, Int.reduceLT, Int.reduceLE, Nat.reduceLeDiff, Bool.false_eq_true, reduceCtorEq, not_false_eq_true, not_true_eq_false, decide_not], H ++ [dS s], by simp only [s_checked_x28, s_checked_x27, s_checked_x22, k, lkp_some c'.c.br, lkp_some c'.c.se, lkp_some c'.ta, len_br, a, u, v, h2, sq_none, bnd_no, dropR, rzq_none, rzq_next, rzC, exV_ok, Er.adr, Qa, Qb, Qc, Qd, Qe, Qf, retS, nxt, asgN, asgT, Qg, Qh, Qi, Qj, Qk, Ql, Qm, Qn, ne_eq, binR, Qo, Qp, subI, subS, noneE, listD, tupD, Qq, Qr, callP, callQ, Qs, Qt, Qu, Qv, callLen, Qw, Qx, Qy, Qz, QA, QB, QC, QD, QE, QF, QG, QH, QI, QJ, QK, QL, QM, QN, QO, QP, QQ, QR, QS, tob, QT, notB, notV, QU, QV, QW, QX, QY, QZ, Q0, cond_true, cond_false, isR, Q1, Q2, Q3, Q4, Q5, isTup, isLis, isStr, isInt, isBoo, updTup, updAll, updName, Q6, Q7, Q8, Q9, Za, Zb, Zc, Zd, Ze, Zf, Zg, sz0, sz1, sz2, sz3, sz4, sz5, Zh, Zi, Zj, List.map_cons, List.map_nil, List.length_cons, List.length_nil, List.length_map, List.any_cons, List.any_nil, id, if_true, if_false, Bool.not_true, Bool.not_false, Bool.or_false, Bool.false_or, Bool.or_true, Bool.true_or, Bool.and_true, Bool.true_and, Bool.and_false, Bool.false_and, Option.map_some, Option.map_none, decide_true, decide_false, String.reduceEq, reduceIte, Nat.reduceAdd, Int.reduceLT, Int.reduceLE, Nat.reduceLeDiff, Bool.false_eq_true, reduceCtorEq, not_false_eq_true, not_true_eq_false, decide_not]⟩
  rw [if_neg h3]
  have u := need_new_ok n base H h3 (by lia : s.length < sizeMax)
  exact ⟨ρ', by simp only [s_checked_b4, s_checked_k3, s_checked_k2, k, lkp_some c'.c.br, lkp_some c'.c.se, lkp_some c'.ta, len_br, a, u, h2, Qa, Qb, Qc, Qd, Qe, Qf, retS, nxt, asgN, asgT, Qg, Qh, Qi, Qj, Qk, Ql, Qm, Qn, ne_eq, binR, Qo, Qp, subI, subS, noneE, listD, tupD, Qq, Qr, callP, callQ, Qs, Qt, Qu, Qv, callLen, Qw, Qx, Qy, Qz, QA, QB, QC, QD, QE, QF, QG, QH, QI, QJ, QK, QL, QM, QN, QO, QP, QQ, QR, QS, tob, QT, notB, notV, QU, QV, QW, QX, QY, QZ, Q0, cond_true, cond_false, isR, Q1, Q2, Q3, Q4, Q5, isTup, isLis, isStr, isInt, isBoo, updTup, updAll, updName, Q6, Q7, Q8, Q9, Za, Zb, Zc, Zd, Ze, Zf, Zg, sz0, sz1, sz2, sz3, sz4, sz5, Zh, Zi, Zj, List.map_cons, List.map_nil, List.length_cons, List.length_nil, List.length_map, List.any_cons, List.any_nil, id, if_true, if_false, Bool.not_true, Bool.not_false, Bool.or_false, Bool.false_or, Bool.or_true, Bool.true_or, Bool.and_true, Bool.true_and, Bool.and_false, Bool.false_and, Option.map_some, Option.map_none, decide_true, decide_false, String.reduceEq, reduceIte, Nat.reduceAdd, Int.reduceLT, Int.reduceLE, Nat.reduceLeDiff, Bool.false_eq_true, reduceCtorEq, not_false_eq_true, not_true_eq_false, decide_not], c'⟩
theorem body_st (hN : N ≤ sizeMax) (t : Int) (s : List Int) (ρ : Loc) (c : CE H brood starts ρ) (hs : s.length + 1 ≤ N) : ∃ ρ1, updName "number" (.int t) ρ = some ρ1 ∧ match one1 (brood.length : Int) (-1) t s with
      | .inr s' => ∃ ρ', s_checked_b8 (callF CC (n+1)) base ρ1 (H ++ [dS s]) = some (.next, ρ', H ++ [dS s']) ∧ CE H brood starts ρ'
      | .inl e => s_checked_b8 (callF CC (n+1)) base ρ1 (H ++ [dS s]) = none ∧ ∃ H', s_checked_x23 (callF CC (n+1)) base ρ1 (H ++ [dS s]) = some (e.adr, H') := by
  refine ⟨upd ρ "number" (.int t), rfl, ?_⟩
  have c' : CE H brood starts (upd ρ "number" (.int t)) := c.up (.int t) (by decide) (by decide) (by decide)
  have k : ∀ G, lkp (upd ρ "number" (.int t)) "number" G = some (.int t, G) := fun G => Qj _ _ _ _
  generalize upd ρ "number" (.int t) = ρ' at c' k
  unfold one1
  by_cases h1 : t < 0 ∨ (brood.length : Int) ≤ t
  · rw [if_pos h1]
    obtain ⟨a, b⟩ := need_task_no n base (H ++ [dS s]) h1
    exact ⟨by simp only [s_checked_b8, k, lkp_some c'.br, len_br, a, sq_none, bnd_no, dropR, Qa, Qb, Qc, Qd, Qe, Qf, retS, nxt, asgN, asgT, Qg, Qh, Qi, Qj, Qk, Ql, Qm, Qn, ne_eq, binR, Qo, Qp, subI, subS, noneE, listD, tupD, Qq, Qr, callP, callQ, Qs, Qt, Qu, Qv, callLen, Qw, Qx, Qy, Qz, QA, QB, QC, QD, QE, QF, QG, QH, QI, QJ, QK, QL, QM, QN, QO, QP, QQ, QR, QS, tob, QT, notB, notV, QU, QV, QW, QX, QY, QZ, Q0, cond_true, cond_false, isR, Q1, Q2, Q3, Q4, Q5, isTup, isLis, isStr, isInt, isBoo, updTup, updAll, updName, Q6, Q7, Q8, Q9, Za, Zb, Zc, Zd, Ze, Zf, Zg, sz0, sz1, sz2, sz3, sz4, sz5, Zh, Zi, Zj, List.map_cons, List.map_nil, List.length_cons, List.length_nil, List.length_map, List.any_cons, List.any_nil, id, if_true, if_false, Bool.not_true, Bool.not_false, Bool.or_false, Bool.false_or, Bool.or_true, Bool.true_or, Bool.and_true, Bool.true_and, Bool.and_false, Bool.false_and, Option.map_some, Option.map_none, decide_true, decide_false, String.reduceEq, reduceIte, Nat.reduceAdd, Int.reduceLT, Int.reduceLE, Nat.reduceLeDiff, Bool.false_eq_true, reduceCtorEq, not_false_eq_true, not_true_eq_false, decide_not], H ++ [dS s], by simp only [s_checked_x23, k, lkp_some c'.br, len_br, a, b, bnd_no, dropR, rzq_none, rzC, exV_ok, Er.adr, Qa, Qb, Qc, Qd, Qe, Qf, retS, nxt, asgN, asgT, Qg, Qh, Qi, Qj, Qk, Ql, Qm, Qn, ne_eq, binR, Qo, Qp, subI, subS, noneE, listD, tupD, Qq, Qr, callP, callQ, Qs, Qt, Qu, Qv, callLen, Qw, Qx, Qy, Qz, QA, QB, QC, QD, QE, QF, QG, QH, QI, QJ, QK, QL, QM, QN, QO, QP, QQ, QR, QS, tob, QT, notB, notV, QU, QV, QW, QX, QY, QZ, Q0, cond_true, cond_false, isR, Q1, Q2, Q3, Q4, Q5, isTup, isLis, isStr, isInt, isBoo, updTup, updAll, updName, Q6, Q7, Q8, Q9, Za, Zb, Zc, Zd, Ze, Zf, Zg, sz0, sz1, sz2, sz3, sz4, sz5, Zh, Zi, Zj, List.map_cons, List.map_nil, List.length_cons, List.length_nil, List.length_map, List.any_cons, List.any_nil, id, if_true, if_false, Bool.not_true, Bool.not_false, Bool.or_false, Bool.false_or, Bool.or_true, Bool.true_or, Bool.and_true, Bool.true_and, Bool.and_false, Bool.false_and, Option.map_some, Option.map_none, decide_true, decide_false, String.reduceEq, reduceIte, Nat.reduceAdd, Int.reduceLT, Int.reduceLE, Nat.reduceLeDiff, Bool.false_eq_true, reduceCtorEq, not_false_eq_true, not_true_eq_false, decide_not]⟩
  rw [if_neg h1]
  have a := need_task_ok n base (t := t) (m := (brood.length : Int)) (H ++ [dS s]) (fun q => h1 (.inl q)) (fun q => h1 (.inr q))
  rw [if_neg (by lia : ¬ t ≤ -1)]
  by_cases h3 : t ∈ s
  · rw [if_pos h3]
    obtain ⟨u, v⟩ := need_new_no n base H h3
    exact ⟨by simp only [s_checked_b8, s_checked_k2, k, lkp_some c'.br, lkp_some c'.se, len_br, a, u, sq_none, bnd_no, dropR, QN, Qa, Qb, Qc, Qd, Qe, Qf, retS, nxt, asgN, asgT, Qg, Qh, Qi, Qj, Qk, Ql, Qm, Qn, ne_eq, binR, Qo, Qp, subI, subS, noneE, listD, tupD, Qq, Qr, callP, callQ, Qs, Qt, Qu, Qv, callLen, Qw, Qx, Qy, Qz, QA, QB, QC, QD, QE, QF, QG, QH, QI, QJ, QK, QL, QM, QN, QO, QP, QQ, QR, QS, tob, QT, notB, notV, QU, QV, QW, QX, QY, QZ, Q0, cond_true, cond_false, isR, Q1, Q2, Q3, Q4, Q5, isTup, isLis, isStr, isInt, isBoo, updTup, updAll, updName, Q6, Q7, Q8, Q9, Za, Zb, Zc, Zd, Ze, Zf, Zg, sz0, sz1, sz2, sz3, sz4, sz5, Zh, Zi, Zj, List.map_cons, List.map_nil, List.length_cons, List.length_nil, List.length_map, List.any_cons, List.any_nil, id, if_true, if_false, Bool.not_true, Bool.not_false, Bool.or_false, Bool.false_or, Bool.or_true, Bool.true_or, Bool.and_true, Bool.true_and, Bool.and_false, Bool.false_and, Option.map_some, Option.map_none, decide_true, decide_false, String.reduceEq, reduceIte, Nat.reduceAdd, Int.reduceLT, Int.reduceLE, Nat.reduceLeDiff, Bool.false_eq_true, reduceCtorEq, not_false_eq_true, not_true_eq_false, decide_not], H ++ [dS s], by simp only [s_checked_x23, s_checked_x22, k, lkp_some c'.br, lkp_some c'.se, len_br, a, u, v, sq_none, bnd_no, dropR, rzq_none, rzq_next, rzC, exV_ok, Er.adr, Qa, Qb, Qc, Qd, Qe, Qf, retS, nxt, asgN, asgT, Qg, Qh, Qi, Qj, Qk, Ql, Qm, Qn, ne_eq, binR, Qo, Qp, subI, subS, noneE, listD, tupD, Qq, Qr, callP, callQ, Qs, Qt, Qu, Qv, callLen, Qw, Qx, Qy, Qz, QA, QB, QC, QD, QE, QF, QG, QH, QI, QJ, QK, QL, QM, QN, QO, QP, QQ, QR, QS, tob, QT, notB, notV, QU, QV, QW, QX, QY, QZ, Q0, cond_true, cond_false, isR, Q1, Q2, Q3, Q4, Q5, isTup, isLis, isStr, isInt, isBoo, updTup, updAll, updName, Q6, Q7, Q8, Q9, Za, Zb, Zc, Zd, Ze, Zf, Zg, sz0, sz1, sz2, sz3, sz4, sz5, Zh, Zi, Zj, List.map_cons, List.map_nil, List.length_cons, List.length_nil, List.length_map, List.any_cons, List.any_nil, id, if_true, if_false, Bool.not_true, Bool.not_false, Bool.or_false, Bool.false_or, Bool.or_true, Bool.true_or, Bool.and_true, Bool.true_and, Bool.and_false, Bool.false_and, Option.map_some, Option.map_none, decide_true, decide_false, String.reduceEq, reduceIte, Nat.reduceAdd, Int.reduceLT, Int.reduceLE, Nat.reduceLeDiff, Bool.false_eq_true, reduceCtorEq, not_false_eq_true, not_true_eq_false, decide_not]⟩
  rw [if_neg h3]
  have u := need_new_ok n base H h3 (by lia : s.length < sizeMax)
  exact ⟨ρ', by simp only [s_checked_b8, s_checked_k2, k, lkp_some c'.br, lkp_some c'.se, len_br, a, u, Qa, Qb, Qc, Qd, Qe, Qf, retS, nxt, asgN, asgT, Qg, Qh, Qi, Qj, Qk, Ql, Qm, Qn, ne_eq, binR, Qo, Qp, subI, subS, noneE, listD, tupD, Qq, Qr, callP, callQ, Qs, Qt, Qu, Qv, callLen, Qw, Qx, Qy, Qz, QA, QB, QC, QD, QE, QF, QG, QH, QI, QJ, QK, QL, QM, QN, QO, QP, QQ, QR, QS, tob, QT, notB, notV, QU, QV, QW, QX, QY, QZ, Q0, cond_true, cond_false, isR, Q1, Q2, Q3, Q4, Q5, isTup, isLis, isStr, isInt, isBoo, updTup, updAll, updName, Q6, Q7, Q8, Q9, Za, Zb, Zc, Zd, Ze, Zf, Zg, sz0, sz1, sz2, sz3, sz4, sz5, Zh, Zi, Zj, List.map_cons, List.map_nil, List.length_cons, List.length_nil, List.length_map, List.any_cons, List.any_nil, id, if_true, if_false, Bool.not_true, Bool.not_false, Bool.or_false, Bool.false_or, Bool.or_true, Bool.true_or, Bool.and_true, Bool.true_and, Bool.and_false, Bool.false_and, Option.map_some, Option.map_none, decide_true, decide_false, String.reduceEq, reduceIte, Nat.reduceAdd, Int.reduceLT, Int.reduceLE, Nat.reduceLeDiff, Bool.false_eq_true, reduceCtorEq, not_false_eq_true, not_true_eq_false, decide_not], c'⟩
end
noncomputable def pr : Nat → List (List Int) → List (Int × List Int)
  | _, [] => []
  | i, r :: rs => ((i : Int), r) :: pr (i + 1) rs
noncomputable def vP (z : Int × List Int) : AV := .tup [.int z.1, iL z.2]
theorem enumL_pr : ∀ (i : Nat) (rows : List (List Int)), enumL i (rows.map iL) = (pr i rows).map vP
  | _, [] => rfl
  | i, r :: rs => congrArg (AV.tup [.int (i : Int), iL r] :: ·) (enumL_pr (i + 1) rs)
theorem pr_wt : ∀ (i : Nat) (rows : List (List Int)), ((pr i rows).map fun z => z.2.length).sum = (rows.map List.length).sum
  | _, [] => rfl
  | i, r :: rs => by
    rw [pr, List.map_cons, List.sum_cons, List.map_cons, List.sum_cons, pr_wt (i + 1) rs]
theorem scan_map {α β : Type} (f : β → List Int → Sc) (g : α → β) : ∀ (as : List α) (s : List Int), scan f (as.map g) s = scan (fun a => f (g a)) as s
  | [], _ => rfl
  | a :: r, s => by
    show (match f (g a) s with | .inl e => _ | .inr s => scan f (r.map g) s) = _
    simp only [scan]
    cases f (g a) s with
    | inl e => rfl
    | inr s => exact scan_map f g r s
theorem madeV_row {l : List Int} {H : HP} : madeV true (some (iL l, H)) = some (.ref H.length, H ++ [rowO l]) := by
  show (if (l.map AV.int).all scal2 = true then some (AV.ref H.length, H ++ [l.map AV.int]) else none) = _
  rw [if_pos (List.all_eq_true.mpr fun x m => by obtain ⟨i, _, rfl⟩ := List.mem_map.mp m; rfl)]
  rfl
theorem copies {c i : Phi → Nat → Loc → HP → R AV} {Φ : Phi} {b : Nat} {x : Str} {ρ : Loc} {G : HP} {rows : List (List Int)} (hc : ∀ t ∈ rows, ∀ G, c Φ b (upd ρ x (iL t)) G = some (.ref G.length, G ++ [rowO t])) (hi : i Φ b ρ G = some (.list (rows.map iL), G)) (hm : rows.length ≤ sizeMax) :
    madeL (compR tt0 (c Φ b) x ρ (i Φ b ρ) G) = some (.ref (G.length + rows.length), tab G rows) := by
  rw [compR_newL (fun v => (itemsOf [] v).getD []) hi rfl (by rw [List.length_map]; exact hm) (fun v m G => by
    obtain ⟨t, ht, rfl⟩ := List.mem_map.mp m
    exact hc t ht G)]
  have h : (rows.map iL).map (fun v => (itemsOf [] v).getD []) = rows.map rowO := by rw [List.map_map]; rfl
  rw [h, List.length_map, Q7, List.length_append, List.length_map]
  rfl
section
variable {n base : Nat} {H : HP} {brood starts : List (List Int)} {N : Nat}
theorem outer_br (hN : N ≤ sizeMax) (z : Int × List Int) (s : List Int) (ρ : Loc) (c : CE H brood starts ρ) (hs : s.length + z.2.length ≤ N) : ∃ ρ1, updTup ["task", "children"] (vP z) ρ = some ρ1 ∧ match row1 (brood.length : Int) z s with
      | .inr s' => ∃ ρ', s_checked_b6 (callF CC (n+1)) base ρ1 (H ++ [dS s]) = some (.next, ρ', H ++ [dS s']) ∧ CE H brood starts ρ'
      | .inl e => s_checked_b6 (callF CC (n+1)) base ρ1 (H ++ [dS s]) = none ∧ ∃ H', s_checked_x29 (callF CC (n+1)) base ρ1 (H ++ [dS s]) = some (e.adr, H') := by
  obtain ⟨p, row⟩ := z
  refine ⟨upd (upd ρ "task" (.int p)) "children" (iL row), rfl, ?_⟩
  have c1 : CP H brood starts p (upd (upd ρ "task" (.int p)) "children" (iL row)) := ⟨(c.up (.int p) (x := "task") (by decide) (by decide) (by decide)).up (iL row) (x := "children") (by decide) (by decide) (by decide), by simp only [Qa, Qb, Qc, Qd, Qe, Qf, retS, nxt, asgN, asgT, Qg, Qh, Qi, Qj, Qk, Ql, Qm, Qn, ne_eq, binR, Qo, Qp, subI, subS, noneE, listD, tupD, Qq, Qr, callP, callQ, Qs, Qt, Qu, Qv, callLen, Qw, Qx, Qy, Qz, QA, QB, QC, QD, QE, QF, QG, QH, QI, QJ, QK, QL, QM, QN, QO, QP, QQ, QR, QS, tob, QT, notB, notV, QU, QV, QW, QX, QY, QZ, Q0, cond_true, cond_false, isR, Q1, Q2, Q3, Q4, Q5, isTup, isLis, isStr, isInt, isBoo, updTup, updAll, updName, Q6, Q7, Q8, Q9, Za, Zb, Zc, Zd, Ze, Zf, Zg, sz0, sz1, sz2, sz3, sz4, sz5, Zh, Zi, Zj, List.map_cons, List.map_nil, List.length_cons, List.length_nil, List.length_map, List.any_cons, List.any_nil, id, if_true, if_false, Bool.not_true, Bool.not_false, Bool.or_false, Bool.false_or, Bool.or_true, Bool.true_or, Bool.and_true, Bool.true_and, Bool.and_false, Bool.false_and, Option.map_some, Option.map_none, decide_true, decide_false, String.reduceEq, reduceIte, Nat.reduceAdd, Int.reduceLT, Int.reduceLE, Nat.reduceLeDiff, Bool.false_eq_true, reduceCtorEq, not_false_eq_true, not_true_eq_false, decide_not]⟩
  have k : ∀ G, lkp (upd (upd ρ "task" (.int p)) "children" (iL row)) "children" G = some (iL row, G) := fun G => Qj _ _ _ _
  generalize upd (upd ρ "task" (.int p)) "children" (iL row) = ρ1 at c1 k
  have L := loop_rz (body := s_checked_b4 (callF CC (n+1)) base) (rb := s_checked_x28 (callF CC (n+1)) base) (tgt := updName "number") (f := one1 (brood.length : Int) p) (hp := fun s => H ++ [dS s]) (P := CP H brood starts p) (v := AV.int) (wt := fun _ => 1) (N := N)
    (fun _ _ _ => one1_len) (fun t s ρ => body_br hN t s ρ) row s ρ1 c1 (by rw [sum_ones]; exact hs)
  have i5 : ∀ G, s_checked_i5 (callF CC (n+1)) base ρ1 G = some (iL row, G) := k
  have e1 : forR (s_checked_b4 (callF CC (n+1)) base) (updName "number") (s_checked_i5 (callF CC (n+1)) base ρ1) ρ1 (H ++ [dS s]) = forL (s_checked_b4 (callF CC (n+1)) base) (updName "number") (row.map AV.int) ρ1 (H ++ [dS s]) := by
    simp only [forR, i5, iL, Qa, Qb, Qc, Qd, Qe, Qf, retS, nxt, asgN, asgT, Qg, Qh, Qi, Qj, Qk, Ql, Qm, Qn, ne_eq, binR, Qo, Qp, subI, subS, noneE, listD, tupD, Qq, Qr, callP, callQ, Qs, Qt, Qu, Qv, callLen, Qw, Qx, Qy, Qz, QA, QB, QC, QD, QE, QF, QG, QH, QI, QJ, QK, QL, QM, QN, QO, QP, QQ, QR, QS, tob, QT, notB, notV, QU, QV, QW, QX, QY, QZ, Q0, cond_true, cond_false, isR, Q1, Q2, Q3, Q4, Q5, isTup, isLis, isStr, isInt, isBoo, updTup, updAll, updName, Q6, Q7, Q8, Q9, Za, Zb, Zc, Zd, Ze, Zf, Zg, sz0, sz1, sz2, sz3, sz4, sz5, Zh, Zi, Zj, List.map_cons, List.map_nil, List.length_cons, List.length_nil, List.length_map, List.any_cons, List.any_nil, id, if_true, if_false, Bool.not_true, Bool.not_false, Bool.or_false, Bool.false_or, Bool.or_true, Bool.true_or, Bool.and_true, Bool.true_and, Bool.and_false, Bool.false_and, Option.map_some, Option.map_none, decide_true, decide_false, String.reduceEq, reduceIte, Nat.reduceAdd, Int.reduceLT, Int.reduceLE, Nat.reduceLeDiff, Bool.false_eq_true, reduceCtorEq, not_false_eq_true, not_true_eq_false, decide_not]
  have e2 : rzF (s_checked_b4 (callF CC (n+1)) base) (s_checked_x28 (callF CC (n+1)) base) (updName "number") (s_checked_i5 (callF CC (n+1)) base ρ1) ρ1 (H ++ [dS s]) = rzL (s_checked_b4 (callF CC (n+1)) base) (s_checked_x28 (callF CC (n+1)) base) (updName "number") (row.map AV.int) ρ1 (H ++ [dS s]) := by
    simp only [rzF, i5, iL, Qa, Qb, Qc, Qd, Qe, Qf, retS, nxt, asgN, asgT, Qg, Qh, Qi, Qj, Qk, Ql, Qm, Qn, ne_eq, binR, Qo, Qp, subI, subS, noneE, listD, tupD, Qq, Qr, callP, callQ, Qs, Qt, Qu, Qv, callLen, Qw, Qx, Qy, Qz, QA, QB, QC, QD, QE, QF, QG, QH, QI, QJ, QK, QL, QM, QN, QO, QP, QQ, QR, QS, tob, QT, notB, notV, QU, QV, QW, QX, QY, QZ, Q0, cond_true, cond_false, isR, Q1, Q2, Q3, Q4, Q5, isTup, isLis, isStr, isInt, isBoo, updTup, updAll, updName, Q6, Q7, Q8, Q9, Za, Zb, Zc, Zd, Ze, Zf, Zg, sz0, sz1, sz2, sz3, sz4, sz5, Zh, Zi, Zj, List.map_cons, List.map_nil, List.length_cons, List.length_nil, List.length_map, List.any_cons, List.any_nil, id, if_true, if_false, Bool.not_true, Bool.not_false, Bool.or_false, Bool.false_or, Bool.or_true, Bool.true_or, Bool.and_true, Bool.true_and, Bool.and_false, Bool.false_and, Option.map_some, Option.map_none, decide_true, decide_false, String.reduceEq, reduceIte, Nat.reduceAdd, Int.reduceLT, Int.reduceLE, Nat.reduceLeDiff, Bool.false_eq_true, reduceCtorEq, not_false_eq_true, not_true_eq_false, decide_not]
  simp only [s_checked_b6, s_checked_x29, e1, e2]
  show match scan (one1 (brood.length : Int) p) row s with | .inr s' => _ | .inl e => _
  cases hq : scan (one1 (brood.length : Int) p) row s with
  | inl e =>
    rw [hq] at L
    obtain ⟨l1, H', l2⟩ := L
    rw [l1, l2]
    exact ⟨rfl, H', rfl⟩
  | inr s' =>
    rw [hq] at L
    obtain ⟨ρ', l1, l2⟩ := L
    rw [l1]
    exact ⟨ρ', rfl, l2.c⟩
theorem outer_st (hN : N ≤ sizeMax) (row : List Int) (s : List Int) (ρ : Loc) (c : CE H brood starts ρ) (hs : s.length + row.length ≤ N) : ∃ ρ1, updName "tasks" (iL row) ρ = some ρ1 ∧ match row1 (brood.length : Int) (-1, row) s with
      | .inr s' => ∃ ρ', s_checked_b10 (callF CC (n+1)) base ρ1 (H ++ [dS s]) = some (.next, ρ', H ++ [dS s']) ∧ CE H brood starts ρ'
      | .inl e => s_checked_b10 (callF CC (n+1)) base ρ1 (H ++ [dS s]) = none ∧ ∃ H', s_checked_x24 (callF CC (n+1)) base ρ1 (H ++ [dS s]) = some (e.adr, H') := by
  refine ⟨upd ρ "tasks" (iL row), rfl, ?_⟩
  have c1 : CE H brood starts (upd ρ "tasks" (iL row)) := c.up (iL row) (x := "tasks") (by decide) (by decide) (by decide)
  have i9 : ∀ G, s_checked_i9 (callF CC (n+1)) base (upd ρ "tasks" (iL row)) G = some (iL row, G) := fun G => Qj _ _ _ _
  generalize upd ρ "tasks" (iL row) = ρ1 at c1 i9
  have L := loop_rz (body := s_checked_b8 (callF CC (n+1)) base) (rb := s_checked_x23 (callF CC (n+1)) base) (tgt := updName "number") (f := one1 (brood.length : Int) (-1)) (hp := fun s => H ++ [dS s]) (P := CE H brood starts) (v := AV.int) (wt := fun _ => 1) (N := N)
    (fun _ _ _ => one1_len) (fun t s ρ => body_st hN t s ρ) row s ρ1 c1 (by rw [sum_ones]; exact hs)
  have e1 : forR (s_checked_b8 (callF CC (n+1)) base) (updName "number") (s_checked_i9 (callF CC (n+1)) base ρ1) ρ1 (H ++ [dS s]) = forL (s_checked_b8 (callF CC (n+1)) base) (updName "number") (row.map AV.int) ρ1 (H ++ [dS s]) := by
    simp only [forR, i9, iL, Qa, Qb, Qc, Qd, Qe, Qf, retS, nxt, asgN, asgT, Qg, Qh, Qi, Qj, Qk, Ql, Qm, Qn, ne_eq, binR, Qo, Qp, subI, subS, noneE, listD, tupD, Qq, Qr, callP, callQ, Qs, Qt, Qu, Qv, callLen, Qw, Qx, Qy, Qz, QA, QB, QC, QD, QE, QF, QG, QH, QI, QJ, QK, QL, QM, QN, QO, QP, QQ, QR, QS, tob, QT, notB, notV, QU, QV, QW, QX, QY, QZ, Q0, cond_true, cond_false, isR, Q1, Q2, Q3, Q4, Q5, isTup, isLis, isStr, isInt, isBoo, updTup, updAll, updName, Q6, Q7, Q8, Q9, Za, Zb, Zc, Zd, Ze, Zf, Zg, sz0, sz1, sz2, sz3, sz4, sz5, Zh, Zi, Zj, List.map_cons, List.map_nil, List.length_cons, List.length_nil, List.length_map, List.any_cons, List.any_nil, id, if_true, if_false, Bool.not_true, Bool.not_false, Bool.or_false, Bool.false_or, Bool.or_true, Bool.true_or, Bool.and_true, Bool.true_and, Bool.and_false, Bool.false_and, Option.map_some, Option.map_none, decide_true, decide_false, String.reduceEq, reduceIte, Nat.reduceAdd, Int.reduceLT, Int.reduceLE, Nat.reduceLeDiff, Bool.false_eq_true, reduceCtorEq, not_false_eq_true, not_true_eq_false, decide_not]
  have e2 : rzF (s_checked_b8 (callF CC (n+1)) base) (s_checked_x23 (callF CC (n+1)) base) (updName "number") (s_checked_i9 (callF CC (n+1)) base ρ1) ρ1 (H ++ [dS s]) = rzL (s_checked_b8 (callF CC (n+1)) base) (s_checked_x23 (callF CC (n+1)) base) (updName "number") (row.map AV.int) ρ1 (H ++ [dS s]) := by
    simp only [rzF, i9, iL, Qa, Qb, Qc, Qd, Qe, Qf, retS, nxt, asgN, asgT, Qg, Qh, Qi, Qj, Qk, Ql, Qm, Qn, ne_eq, binR, Qo, Qp, subI, subS, noneE, listD, tupD, Qq, Qr, callP, callQ, Qs, Qt, Qu, Qv, callLen, Qw, Qx, Qy, Qz, QA, QB, QC, QD, QE, QF, QG, QH, QI, QJ, QK, QL, QM, QN, QO, QP, QQ, QR, QS, tob, QT, notB, notV, QU, QV, QW, QX, QY, QZ, Q0, cond_true, cond_false, isR, Q1, Q2, Q3, Q4, Q5, isTup, isLis, isStr, isInt, isBoo, updTup, updAll, updName, Q6, Q7, Q8, Q9, Za, Zb, Zc, Zd, Ze, Zf, Zg, sz0, sz1, sz2, sz3, sz4, sz5, Zh, Zi, Zj, List.map_cons, List.map_nil, List.length_cons, List.length_nil, List.length_map, List.any_cons, List.any_nil, id, if_true, if_false, Bool.not_true, Bool.not_false, Bool.or_false, Bool.false_or, Bool.or_true, Bool.true_or, Bool.and_true, Bool.true_and, Bool.and_false, Bool.false_and, Option.map_some, Option.map_none, decide_true, decide_false, String.reduceEq, reduceIte, Nat.reduceAdd, Int.reduceLT, Int.reduceLE, Nat.reduceLeDiff, Bool.false_eq_true, reduceCtorEq, not_false_eq_true, not_true_eq_false, decide_not]
  simp only [s_checked_b10, s_checked_x24, e1, e2]
  show match scan (one1 (brood.length : Int) (-1)) row s with | .inr s' => _ | .inl e => _
  cases hq : scan (one1 (brood.length : Int) (-1)) row s with
  | inl e =>
    rw [hq] at L
    obtain ⟨l1, H', l2⟩ := L
    rw [l1, l2]
    exact ⟨rfl, H', rfl⟩
  | inr s' =>
    rw [hq] at L
    obtain ⟨ρ', l1, l2⟩ := L
    rw [l1]
    exact ⟨ρ', rfl, l2⟩

/-- all rows of a plan -/
noncomputable def allR (brood starts : List (List Int)) : List (Int × List Int) := pr 0 brood ++ starts.map fun r => (-1, r)
noncomputable def tot (brood starts : List (List Int)) : Nat := (brood.map List.length).sum + (starts.map List.length).sum
theorem cmpA2_two (a : AV) (o o' : CmpOp) (r r' : HP → R AV) (H : HP) : cmpA2 a [o, o'] [r, r'] H = bnd (r H) fun b H => bnd (lft (cmpV o a b H) H) fun c H => bif c then cmpA b [o'] [r'] H else some (.bool false, H) := by
  show bnd _ _ = bnd _ _
  congr 1
theorem checked_many (n base : Nat) (H : HP) (h : 200 < brood.length) : callF CC (n+1) base "checked" [planV brood starts] H = none ∧ callF CC (n+1) base (bang "checked") [planV brood starts] H = some (.obj 37, H) := by
  rw [g_checked, gx_checked]
  have h' : (200 : Int) < (brood.length : Int) := by lia
  exact ⟨by simp only [s_checked, s_checked_body, s_checked_k20, s_checked_k1, planV, len_br, h', sq_none, finR_no, Qa, Qb, Qc, Qd, Qe, Qf, retS, nxt, asgN, asgT, Qg, Qh, Qi, Qj, Qk, Ql, Qm, Qn, ne_eq, binR, Qo, Qp, subI, subS, noneE, listD, tupD, Qq, Qr, callP, callQ, Qs, Qt, Qu, Qv, callLen, Qw, Qx, Qy, Qz, QA, QB, QC, QD, QE, QF, QG, QH, QI, QJ, QK, QL, QM, QN, QO, QP, QQ, QR, QS, tob, QT, notB, notV, QU, QV, QW, QX, QY, QZ, Q0, cond_true, cond_false, isR, Q1, Q2, Q3, Q4, Q5, isTup, isLis, isStr, isInt, isBoo, updTup, updAll, updName, Q6, Q7, Q8, Q9, Za, Zb, Zc, Zd, Ze, Zf, Zg, sz0, sz1, sz2, sz3, sz4, sz5, Zh, Zi, Zj, List.map_cons, List.map_nil, List.length_cons, List.length_nil, List.length_map, List.any_cons, List.any_nil, id, if_true, if_false, Bool.not_true, Bool.not_false, Bool.or_false, Bool.false_or, Bool.or_true, Bool.true_or, Bool.and_true, Bool.true_and, Bool.and_false, Bool.false_and, Option.map_some, Option.map_none, decide_true, decide_false, String.reduceEq, reduceIte, Nat.reduceAdd, Int.reduceLT, Int.reduceLE, Nat.reduceLeDiff, Bool.false_eq_true, reduceCtorEq, not_false_eq_true, not_true_eq_false, decide_not], by simp only [s_checked_rz, s_checked_x35, s_checked_x34, s_checked_k1, planV, len_br, h', sq_none, rzq_none, rzq_next, rzI_true, objR_ok, Qa, Qb, Qc, Qd, Qe, Qf, retS, nxt, asgN, asgT, Qg, Qh, Qi, Qj, Qk, Ql, Qm, Qn, ne_eq, binR, Qo, Qp, subI, subS, noneE, listD, tupD, Qq, Qr, callP, callQ, Qs, Qt, Qu, Qv, callLen, Qw, Qx, Qy, Qz, QA, QB, QC, QD, QE, QF, QG, QH, QI, QJ, QK, QL, QM, QN, QO, QP, QQ, QR, QS, tob, QT, notB, notV, QU, QV, QW, QX, QY, QZ, Q0, cond_true, cond_false, isR, Q1, Q2, Q3, Q4, Q5, isTup, isLis, isStr, isInt, isBoo, updTup, updAll, updName, Q6, Q7, Q8, Q9, Za, Zb, Zc, Zd, Ze, Zf, Zg, sz0, sz1, sz2, sz3, sz4, sz5, Zh, Zi, Zj, List.map_cons, List.map_nil, List.length_cons, List.length_nil, List.length_map, List.any_cons, List.any_nil, id, if_true, if_false, Bool.not_true, Bool.not_false, Bool.or_false, Bool.false_or, Bool.or_true, Bool.true_or, Bool.and_true, Bool.true_and, Bool.and_false, Bool.false_and, Option.map_some, Option.map_none, decide_true, decide_false, String.reduceEq, reduceIte, Nat.reduceAdd, Int.reduceLT, Int.reduceLE, Nat.reduceLeDiff, Bool.false_eq_true, reduceCtorEq, not_false_eq_true, not_true_eq_false, decide_not]⟩
theorem checked_crew (n base : Nat) (H : HP) (h : ¬ 200 < brood.length) (hc : starts.length < 1 ∨ 12 < starts.length) : callF CC (n+1) base "checked" [planV brood starts] H = none ∧ callF CC (n+1) base (bang "checked") [planV brood starts] H = some (.obj 49, H) := by
  rw [g_checked, gx_checked]
  have h' : ¬ (200 : Int) < (brood.length : Int) := by lia
  by_cases q : (1 : Int) ≤ (starts.length : Int)
  · have q2 : ¬ (starts.length : Int) ≤ 12 := by lia
    exact ⟨by simp only [s_checked, s_checked_body, s_checked_k20, s_checked_k19, s_checked_k1, planV, len_br, h', q, q2, cmpA2_two, sq_none, finR_no, Qa, Qb, Qc, Qd, Qe, Qf, retS, nxt, asgN, asgT, Qg, Qh, Qi, Qj, Qk, Ql, Qm, Qn, ne_eq, binR, Qo, Qp, subI, subS, noneE, listD, tupD, Qq, Qr, callP, callQ, Qs, Qt, Qu, Qv, callLen, Qw, Qx, Qy, Qz, QA, QB, QC, QD, QE, QF, QG, QH, QI, QJ, QK, QL, QM, QN, QO, QP, QQ, QR, QS, tob, QT, notB, notV, QU, QV, QW, QX, QY, QZ, Q0, cond_true, cond_false, isR, Q1, Q2, Q3, Q4, Q5, isTup, isLis, isStr, isInt, isBoo, updTup, updAll, updName, Q6, Q7, Q8, Q9, Za, Zb, Zc, Zd, Ze, Zf, Zg, sz0, sz1, sz2, sz3, sz4, sz5, Zh, Zi, Zj, List.map_cons, List.map_nil, List.length_cons, List.length_nil, List.length_map, List.any_cons, List.any_nil, id, if_true, if_false, Bool.not_true, Bool.not_false, Bool.or_false, Bool.false_or, Bool.or_true, Bool.true_or, Bool.and_true, Bool.true_and, Bool.and_false, Bool.false_and, Option.map_some, Option.map_none, decide_true, decide_false, String.reduceEq, reduceIte, Nat.reduceAdd, Int.reduceLT, Int.reduceLE, Nat.reduceLeDiff, Bool.false_eq_true, reduceCtorEq, not_false_eq_true, not_true_eq_false, decide_not], by simp only [s_checked_rz, s_checked_x35, s_checked_x33, s_checked_x32, s_checked_k1, planV, len_br, h', q, q2, cmpA2_two, sq_none, rzq_none, rzq_next, rzI_true, objR_ok, Qa, Qb, Qc, Qd, Qe, Qf, retS, nxt, asgN, asgT, Qg, Qh, Qi, Qj, Qk, Ql, Qm, Qn, ne_eq, binR, Qo, Qp, subI, subS, noneE, listD, tupD, Qq, Qr, callP, callQ, Qs, Qt, Qu, Qv, callLen, Qw, Qx, Qy, Qz, QA, QB, QC, QD, QE, QF, QG, QH, QI, QJ, QK, QL, QM, QN, QO, QP, QQ, QR, QS, tob, QT, notB, notV, QU, QV, QW, QX, QY, QZ, Q0, cond_true, cond_false, isR, Q1, Q2, Q3, Q4, Q5, isTup, isLis, isStr, isInt, isBoo, updTup, updAll, updName, Q6, Q7, Q8, Q9, Za, Zb, Zc, Zd, Ze, Zf, Zg, sz0, sz1, sz2, sz3, sz4, sz5, Zh, Zi, Zj, List.map_cons, List.map_nil, List.length_cons, List.length_nil, List.length_map, List.any_cons, List.any_nil, id, if_true, if_false, Bool.not_true, Bool.not_false, Bool.or_false, Bool.false_or, Bool.or_true, Bool.true_or, Bool.and_true, Bool.true_and, Bool.and_false, Bool.false_and, Option.map_some, Option.map_none, decide_true, decide_false, String.reduceEq, reduceIte, Nat.reduceAdd, Int.reduceLT, Int.reduceLE, Nat.reduceLeDiff, Bool.false_eq_true, reduceCtorEq, not_false_eq_true, not_true_eq_false, decide_not]⟩
  · exact ⟨by simp only [s_checked, s_checked_body, s_checked_k20, s_checked_k19, s_checked_k1, planV, len_br, h', q, cmpA2_two, sq_none, finR_no, Qa, Qb, Qc, Qd, Qe, Qf, retS, nxt, asgN, asgT, Qg, Qh, Qi, Qj, Qk, Ql, Qm, Qn, ne_eq, binR, Qo, Qp, subI, subS, noneE, listD, tupD, Qq, Qr, callP, callQ, Qs, Qt, Qu, Qv, callLen, Qw, Qx, Qy, Qz, QA, QB, QC, QD, QE, QF, QG, QH, QI, QJ, QK, QL, QM, QN, QO, QP, QQ, QR, QS, tob, QT, notB, notV, QU, QV, QW, QX, QY, QZ, Q0, cond_true, cond_false, isR, Q1, Q2, Q3, Q4, Q5, isTup, isLis, isStr, isInt, isBoo, updTup, updAll, updName, Q6, Q7, Q8, Q9, Za, Zb, Zc, Zd, Ze, Zf, Zg, sz0, sz1, sz2, sz3, sz4, sz5, Zh, Zi, Zj, List.map_cons, List.map_nil, List.length_cons, List.length_nil, List.length_map, List.any_cons, List.any_nil, id, if_true, if_false, Bool.not_true, Bool.not_false, Bool.or_false, Bool.false_or, Bool.or_true, Bool.true_or, Bool.and_true, Bool.true_and, Bool.and_false, Bool.false_and, Option.map_some, Option.map_none, decide_true, decide_false, String.reduceEq, reduceIte, Nat.reduceAdd, Int.reduceLT, Int.reduceLE, Nat.reduceLeDiff, Bool.false_eq_true, reduceCtorEq, not_false_eq_true, not_true_eq_false, decide_not], by simp only [s_checked_rz, s_checked_x35, s_checked_x33, s_checked_x32, s_checked_k1, planV, len_br, h', q, cmpA2_two, sq_none, rzq_none, rzq_next, rzI_true, objR_ok, Qa, Qb, Qc, Qd, Qe, Qf, retS, nxt, asgN, asgT, Qg, Qh, Qi, Qj, Qk, Ql, Qm, Qn, ne_eq, binR, Qo, Qp, subI, subS, noneE, listD, tupD, Qq, Qr, callP, callQ, Qs, Qt, Qu, Qv, callLen, Qw, Qx, Qy, Qz, QA, QB, QC, QD, QE, QF, QG, QH, QI, QJ, QK, QL, QM, QN, QO, QP, QQ, QR, QS, tob, QT, notB, notV, QU, QV, QW, QX, QY, QZ, Q0, cond_true, cond_false, isR, Q1, Q2, Q3, Q4, Q5, isTup, isLis, isStr, isInt, isBoo, updTup, updAll, updName, Q6, Q7, Q8, Q9, Za, Zb, Zc, Zd, Ze, Zf, Zg, sz0, sz1, sz2, sz3, sz4, sz5, Zh, Zi, Zj, List.map_cons, List.map_nil, List.length_cons, List.length_nil, List.length_map, List.any_cons, List.any_nil, id, if_true, if_false, Bool.not_true, Bool.not_false, Bool.or_false, Bool.false_or, Bool.or_true, Bool.true_or, Bool.and_true, Bool.true_and, Bool.and_false, Bool.false_and, Option.map_some, Option.map_none, decide_true, decide_false, String.reduceEq, reduceIte, Nat.reduceAdd, Int.reduceLT, Int.reduceLE, Nat.reduceLeDiff, Bool.false_eq_true, reduceCtorEq, not_false_eq_true, not_true_eq_false, decide_not]⟩
theorem checked_eval (n base : Nat) (H : HP) (h : ¬ 200 < brood.length) (hc : ¬ (starts.length < 1 ∨ 12 < starts.length)) (ht : tot brood starts ≤ sizeMax) : match scan (row1 (brood.length : Int)) (allR brood starts) [] with
      | .inr s => callF CC (n+2) base "checked" [planV brood starts] H = some (.tup [.ref (H.length + 1 + brood.length), .ref (H.length + 1 + brood.length + 1 + starts.length)], tab (tab (H ++ [dS s]) brood) starts)
      | .inl e => callF CC (n+2) base "checked" [planV brood starts] H = none ∧ ∃ H', callF CC (n+2) base (bang "checked") [planV brood starts] H = some (.obj e.adr, H') := by
  rw [g_checked, gx_checked]
  have h' : ¬ (200 : Int) < (brood.length : Int) := by lia
  have q : (1 : Int) ≤ (starts.length : Int) := by lia
  have q2 : (starts.length : Int) ≤ 12 := by lia
  generalize e0 : upd (upd (upd (upd locNil "plan" (planV brood starts)) "brood" (.list (brood.map iL))) "starts" (.list (starts.map iL))) "seen" (.dct H.length) = ρ0
  have C0 : CE H brood starts ρ0 := by rw [← e0]; exact ⟨by simp only [Qa, Qb, Qc, Qd, Qe, Qf, retS, nxt, asgN, asgT, Qg, Qh, Qi, Qj, Qk, Ql, Qm, Qn, ne_eq, binR, Qo, Qp, subI, subS, noneE, listD, tupD, Qq, Qr, callP, callQ, Qs, Qt, Qu, Qv, callLen, Qw, Qx, Qy, Qz, QA, QB, QC, QD, QE, QF, QG, QH, QI, QJ, QK, QL, QM, QN, QO, QP, QQ, QR, QS, tob, QT, notB, notV, QU, QV, QW, QX, QY, QZ, Q0, cond_true, cond_false, isR, Q1, Q2, Q3, Q4, Q5, isTup, isLis, isStr, isInt, isBoo, updTup, updAll, updName, Q6, Q7, Q8, Q9, Za, Zb, Zc, Zd, Ze, Zf, Zg, sz0, sz1, sz2, sz3, sz4, sz5, Zh, Zi, Zj, List.map_cons, List.map_nil, List.length_cons, List.length_nil, List.length_map, List.any_cons, List.any_nil, id, if_true, if_false, Bool.not_true, Bool.not_false, Bool.or_false, Bool.false_or, Bool.or_true, Bool.true_or, Bool.and_true, Bool.true_and, Bool.and_false, Bool.false_and, Option.map_some, Option.map_none, decide_true, decide_false, String.reduceEq, reduceIte, Nat.reduceAdd, Int.reduceLT, Int.reduceLE, Nat.reduceLeDiff, Bool.false_eq_true, reduceCtorEq, not_false_eq_true, not_true_eq_false, decide_not], by simp only [Qa, Qb, Qc, Qd, Qe, Qf, retS, nxt, asgN, asgT, Qg, Qh, Qi, Qj, Qk, Ql, Qm, Qn, ne_eq, binR, Qo, Qp, subI, subS, noneE, listD, tupD, Qq, Qr, callP, callQ, Qs, Qt, Qu, Qv, callLen, Qw, Qx, Qy, Qz, QA, QB, QC, QD, QE, QF, QG, QH, QI, QJ, QK, QL, QM, QN, QO, QP, QQ, QR, QS, tob, QT, notB, notV, QU, QV, QW, QX, QY, QZ, Q0, cond_true, cond_false, isR, Q1, Q2, Q3, Q4, Q5, isTup, isLis, isStr, isInt, isBoo, updTup, updAll, updName, Q6, Q7, Q8, Q9, Za, Zb, Zc, Zd, Ze, Zf, Zg, sz0, sz1, sz2, sz3, sz4, sz5, Zh, Zi, Zj, List.map_cons, List.map_nil, List.length_cons, List.length_nil, List.length_map, List.any_cons, List.any_nil, id, if_true, if_false, Bool.not_true, Bool.not_false, Bool.or_false, Bool.false_or, Bool.or_true, Bool.true_or, Bool.and_true, Bool.true_and, Bool.and_false, Bool.false_and, Option.map_some, Option.map_none, decide_true, decide_false, String.reduceEq, reduceIte, Nat.reduceAdd, Int.reduceLT, Int.reduceLE, Nat.reduceLeDiff, Bool.false_eq_true, reduceCtorEq, not_false_eq_true, not_true_eq_false, decide_not], by simp only [Qa, Qb, Qc, Qd, Qe, Qf, retS, nxt, asgN, asgT, Qg, Qh, Qi, Qj, Qk, Ql, Qm, Qn, ne_eq, binR, Qo, Qp, subI, subS, noneE, listD, tupD, Qq, Qr, callP, callQ, Qs, Qt, Qu, Qv, callLen, Qw, Qx, Qy, Qz, QA, QB, QC, QD, QE, QF, QG, QH, QI, QJ, QK, QL, QM, QN, QO, QP, QQ, QR, QS, tob, QT, notB, notV, QU, QV, QW, QX, QY, QZ, Q0, cond_true, cond_false, isR, Q1, Q2, Q3, Q4, Q5, isTup, isLis, isStr, isInt, isBoo, updTup, updAll, updName, Q6, Q7, Q8, Q9, Za, Zb, Zc, Zd, Ze, Zf, Zg, sz0, sz1, sz2, sz3, sz4, sz5, Zh, Zi, Zj, List.map_cons, List.map_nil, List.length_cons, List.length_nil, List.length_map, List.any_cons, List.any_nil, id, if_true, if_false, Bool.not_true, Bool.not_false, Bool.or_false, Bool.false_or, Bool.or_true, Bool.true_or, Bool.and_true, Bool.true_and, Bool.and_false, Bool.false_and, Option.map_some, Option.map_none, decide_true, decide_false, String.reduceEq, reduceIte, Nat.reduceAdd, Int.reduceLT, Int.reduceLE, Nat.reduceLeDiff, Bool.false_eq_true, reduceCtorEq, not_false_eq_true, not_true_eq_false, decide_not]⟩
  have a1 : s_checked (callF CC (n+1)) base (planV brood starts) H = finR (s_checked_k17 (callF CC (n+1)) base ρ0 (H ++ [dS []])) := by
    rw [← e0]
    simp only [s_checked, s_checked_body, s_checked_k20, s_checked_k19, s_checked_k18, planV, len_br, h', q, q2, cmpA2_two, newD, List.isEmpty_nil, Qa, Qb, Qc, Qd, Qe, Qf, retS, nxt, asgN, asgT, Qg, Qh, Qi, Qj, Qk, Ql, Qm, Qn, ne_eq, binR, Qo, Qp, subI, subS, noneE, listD, tupD, Qq, Qr, callP, callQ, Qs, Qt, Qu, Qv, callLen, Qw, Qx, Qy, Qz, QA, QB, QC, QD, QE, QF, QG, QH, QI, QJ, QK, QL, QM, QN, QO, QP, QQ, QR, QS, tob, QT, notB, notV, QU, QV, QW, QX, QY, QZ, Q0, cond_true, cond_false, isR, Q1, Q2, Q3, Q4, Q5, isTup, isLis, isStr, isInt, isBoo, updTup, updAll, updName, Q6, Q7, Q8, Q9, Za, Zb, Zc, Zd, Ze, Zf, Zg, sz0, sz1, sz2, sz3, sz4, sz5, Zh, Zi, Zj, List.map_cons, List.map_nil, List.length_cons, List.length_nil, List.length_map, List.any_cons, List.any_nil, id, if_true, if_false, Bool.not_true, Bool.not_false, Bool.or_false, Bool.false_or, Bool.or_true, Bool.true_or, Bool.and_true, Bool.true_and, Bool.and_false, Bool.false_and, Option.map_some, Option.map_none, decide_true, decide_false, String.reduceEq, reduceIte, Nat.reduceAdd, Int.reduceLT, Int.reduceLE, Nat.reduceLeDiff, Bool.false_eq_true, reduceCtorEq, not_false_eq_true, not_true_eq_false, decide_not]
    rfl
  have a2 : s_checked_rz (callF CC (n+1)) base (upd locNil "plan" (planV brood starts)) H = s_checked_x30 (callF CC (n+1)) base ρ0 (H ++ [dS []]) := by
    rw [← e0]
    simp only [s_checked_rz, s_checked_x35, s_checked_x33, s_checked_x31, planV, len_br, h', q, q2, cmpA2_two, newD, List.isEmpty_nil, rzq_next, Qa, Qb, Qc, Qd, Qe, Qf, retS, nxt, asgN, asgT, Qg, Qh, Qi, Qj, Qk, Ql, Qm, Qn, ne_eq, binR, Qo, Qp, subI, subS, noneE, listD, tupD, Qq, Qr, callP, callQ, Qs, Qt, Qu, Qv, callLen, Qw, Qx, Qy, Qz, QA, QB, QC, QD, QE, QF, QG, QH, QI, QJ, QK, QL, QM, QN, QO, QP, QQ, QR, QS, tob, QT, notB, notV, QU, QV, QW, QX, QY, QZ, Q0, cond_true, cond_false, isR, Q1, Q2, Q3, Q4, Q5, isTup, isLis, isStr, isInt, isBoo, updTup, updAll, updName, Q6, Q7, Q8, Q9, Za, Zb, Zc, Zd, Ze, Zf, Zg, sz0, sz1, sz2, sz3, sz4, sz5, Zh, Zi, Zj, List.map_cons, List.map_nil, List.length_cons, List.length_nil, List.length_map, List.any_cons, List.any_nil, id, if_true, if_false, Bool.not_true, Bool.not_false, Bool.or_false, Bool.false_or, Bool.or_true, Bool.true_or, Bool.and_true, Bool.true_and, Bool.and_false, Bool.false_and, Option.map_some, Option.map_none, decide_true, decide_false, String.reduceEq, reduceIte, Nat.reduceAdd, Int.reduceLT, Int.reduceLE, Nat.reduceLeDiff, Bool.false_eq_true, reduceCtorEq, not_false_eq_true, not_true_eq_false, decide_not]
    rfl
  rw [a1, a2]
  unfold tot at ht
  have L1 := loop_rz (body := s_checked_b6 (callF CC (n+1)) base) (rb := s_checked_x29 (callF CC (n+1)) base) (tgt := updTup ["task", "children"]) (f := row1 (brood.length : Int)) (hp := fun s => H ++ [dS s]) (P := CE H brood starts) (v := vP) (wt := fun z => z.2.length) (N := sizeMax)
    (fun _ _ _ => row1_len) (fun z s ρ => outer_br (Nat.le_refl _) z s ρ) (pr 0 brood) [] ρ0 C0 (by rw [pr_wt]; simp only [List.length_nil]; lia)
  have i7 : ∀ G, s_checked_i7 (callF CC (n+1)) base ρ0 G = some (.list ((pr 0 brood).map vP), G) := fun G => by
    simp only [s_checked_i7, lkp_some C0.br, enumR, enumV, enumL_pr, Qa, Qb, Qc, Qd, Qe, Qf, retS, nxt, asgN, asgT, Qg, Qh, Qi, Qj, Qk, Ql, Qm, Qn, ne_eq, binR, Qo, Qp, subI, subS, noneE, listD, tupD, Qq, Qr, callP, callQ, Qs, Qt, Qu, Qv, callLen, Qw, Qx, Qy, Qz, QA, QB, QC, QD, QE, QF, QG, QH, QI, QJ, QK, QL, QM, QN, QO, QP, QQ, QR, QS, tob, QT, notB, notV, QU, QV, QW, QX, QY, QZ, Q0, cond_true, cond_false, isR, Q1, Q2, Q3, Q4, Q5, isTup, isLis, isStr, isInt, isBoo, updTup, updAll, updName, Q6, Q7, Q8, Q9, Za, Zb, Zc, Zd, Ze, Zf, Zg, sz0, sz1, sz2, sz3, sz4, sz5, Zh, Zi, Zj, List.map_cons, List.map_nil, List.length_cons, List.length_nil, List.length_map, List.any_cons, List.any_nil, id, if_true, if_false, Bool.not_true, Bool.not_false, Bool.or_false, Bool.false_or, Bool.or_true, Bool.true_or, Bool.and_true, Bool.true_and, Bool.and_false, Bool.false_and, Option.map_some, Option.map_none, decide_true, decide_false, String.reduceEq, reduceIte, Nat.reduceAdd, Int.reduceLT, Int.reduceLE, Nat.reduceLeDiff, Bool.false_eq_true, reduceCtorEq, not_false_eq_true, not_true_eq_false, decide_not]
  have e1 : forR (s_checked_b6 (callF CC (n+1)) base) (updTup ["task", "children"]) (s_checked_i7 (callF CC (n+1)) base ρ0) ρ0 (H ++ [dS []]) = forL (s_checked_b6 (callF CC (n+1)) base) (updTup ["task", "children"]) ((pr 0 brood).map vP) ρ0 (H ++ [dS []]) := by
    simp only [forR, i7, Qa, Qb, Qc, Qd, Qe, Qf, retS, nxt, asgN, asgT, Qg, Qh, Qi, Qj, Qk, Ql, Qm, Qn, ne_eq, binR, Qo, Qp, subI, subS, noneE, listD, tupD, Qq, Qr, callP, callQ, Qs, Qt, Qu, Qv, callLen, Qw, Qx, Qy, Qz, QA, QB, QC, QD, QE, QF, QG, QH, QI, QJ, QK, QL, QM, QN, QO, QP, QQ, QR, QS, tob, QT, notB, notV, QU, QV, QW, QX, QY, QZ, Q0, cond_true, cond_false, isR, Q1, Q2, Q3, Q4, Q5, isTup, isLis, isStr, isInt, isBoo, updTup, updAll, updName, Q6, Q7, Q8, Q9, Za, Zb, Zc, Zd, Ze, Zf, Zg, sz0, sz1, sz2, sz3, sz4, sz5, Zh, Zi, Zj, List.map_cons, List.map_nil, List.length_cons, List.length_nil, List.length_map, List.any_cons, List.any_nil, id, if_true, if_false, Bool.not_true, Bool.not_false, Bool.or_false, Bool.false_or, Bool.or_true, Bool.true_or, Bool.and_true, Bool.true_and, Bool.and_false, Bool.false_and, Option.map_some, Option.map_none, decide_true, decide_false, String.reduceEq, reduceIte, Nat.reduceAdd, Int.reduceLT, Int.reduceLE, Nat.reduceLeDiff, Bool.false_eq_true, reduceCtorEq, not_false_eq_true, not_true_eq_false, decide_not]
  have e2 : rzF (s_checked_b6 (callF CC (n+1)) base) (s_checked_x29 (callF CC (n+1)) base) (updTup ["task", "children"]) (s_checked_i7 (callF CC (n+1)) base ρ0) ρ0 (H ++ [dS []]) = rzL (s_checked_b6 (callF CC (n+1)) base) (s_checked_x29 (callF CC (n+1)) base) (updTup ["task", "children"]) ((pr 0 brood).map vP) ρ0 (H ++ [dS []]) := by
    simp only [rzF, i7, Qa, Qb, Qc, Qd, Qe, Qf, retS, nxt, asgN, asgT, Qg, Qh, Qi, Qj, Qk, Ql, Qm, Qn, ne_eq, binR, Qo, Qp, subI, subS, noneE, listD, tupD, Qq, Qr, callP, callQ, Qs, Qt, Qu, Qv, callLen, Qw, Qx, Qy, Qz, QA, QB, QC, QD, QE, QF, QG, QH, QI, QJ, QK, QL, QM, QN, QO, QP, QQ, QR, QS, tob, QT, notB, notV, QU, QV, QW, QX, QY, QZ, Q0, cond_true, cond_false, isR, Q1, Q2, Q3, Q4, Q5, isTup, isLis, isStr, isInt, isBoo, updTup, updAll, updName, Q6, Q7, Q8, Q9, Za, Zb, Zc, Zd, Ze, Zf, Zg, sz0, sz1, sz2, sz3, sz4, sz5, Zh, Zi, Zj, List.map_cons, List.map_nil, List.length_cons, List.length_nil, List.length_map, List.any_cons, List.any_nil, id, if_true, if_false, Bool.not_true, Bool.not_false, Bool.or_false, Bool.false_or, Bool.or_true, Bool.true_or, Bool.and_true, Bool.true_and, Bool.and_false, Bool.false_and, Option.map_some, Option.map_none, decide_true, decide_false, String.reduceEq, reduceIte, Nat.reduceAdd, Int.reduceLT, Int.reduceLE, Nat.reduceLeDiff, Bool.false_eq_true, reduceCtorEq, not_false_eq_true, not_true_eq_false, decide_not]
  simp only [s_checked_k17, s_checked_x30, e1, e2]
  rw [allR, scan_append]
  have hlen : ∀ s', scan (row1 (brood.length : Int)) (pr 0 brood) [] = .inr s' → s'.length = 0 + (brood.map List.length).sum := fun s' h => by
    have := scan_len (f := row1 (brood.length : Int)) (wt := fun z => z.2.length) (fun _ _ _ => row1_len) h
    rwa [pr_wt] at this
  cases hq : scan (row1 (brood.length : Int)) (pr 0 brood) [] with
  | inl e =>
    rw [hq] at L1
    obtain ⟨l1, H', l2⟩ := L1
    rw [l1, l2]
    exact ⟨rfl, H', rfl⟩
  | inr s1 =>
    rw [hq] at L1
    obtain ⟨ρ1, l1, C1⟩ := L1
    have hl1 := hlen s1 hq
    rw [l1, Qc, rzq_next]
    dsimp only
    rw [scan_map]
    have L2 := loop_rz (body := s_checked_b10 (callF CC (n+1)) base) (rb := s_checked_x24 (callF CC (n+1)) base) (tgt := updName "tasks") (f := fun r => row1 (brood.length : Int) (-1, r)) (hp := fun s => H ++ [dS s]) (P := CE H brood starts) (v := iL) (wt := List.length) (N := sizeMax)
      (fun a _ _ h => row1_len h) (fun z s ρ => outer_st (Nat.le_refl _) z s ρ) starts s1 ρ1 C1 (by rw [hl1]; lia)
    have i11 : ∀ G, s_checked_i11 (callF CC (n+1)) base ρ1 G = some (.list (starts.map iL), G) := fun G => lkp_some C1.st
    have e3 : forR (s_checked_b10 (callF CC (n+1)) base) (updName "tasks") (s_checked_i11 (callF CC (n+1)) base ρ1) ρ1 (H ++ [dS s1]) = forL (s_checked_b10 (callF CC (n+1)) base) (updName "tasks") (starts.map iL) ρ1 (H ++ [dS s1]) := by
      simp only [forR, i11, Qa, Qb, Qc, Qd, Qe, Qf, retS, nxt, asgN, asgT, Qg, Qh, Qi, Qj, Qk, Ql, Qm, Qn, ne_eq, binR, Qo, Qp, subI, subS, noneE, listD, tupD, Qq, Qr, callP, callQ, Qs, Qt, Qu, Qv, callLen, Qw, Qx, Qy, Qz, QA, QB, QC, QD, QE, QF, QG, QH, QI, QJ, QK, QL, QM, QN, QO, QP, QQ, QR, QS, tob, QT, notB, notV, QU, QV, QW, QX, QY, QZ, Q0, cond_true, cond_false, isR, Q1, Q2, Q3, Q4, Q5, isTup, isLis, isStr, isInt, isBoo, updTup, updAll, updName, Q6, Q7, Q8, Q9, Za, Zb, Zc, Zd, Ze, Zf, Zg, sz0, sz1, sz2, sz3, sz4, sz5, Zh, Zi, Zj, List.map_cons, List.map_nil, List.length_cons, List.length_nil, List.length_map, List.any_cons, List.any_nil, id, if_true, if_false, Bool.not_true, Bool.not_false, Bool.or_false, Bool.false_or, Bool.or_true, Bool.true_or, Bool.and_true, Bool.true_and, Bool.and_false, Bool.false_and, Option.map_some, Option.map_none, decide_true, decide_false, String.reduceEq, reduceIte, Nat.reduceAdd, Int.reduceLT, Int.reduceLE, Nat.reduceLeDiff, Bool.false_eq_true, reduceCtorEq, not_false_eq_true, not_true_eq_false, decide_not]
    have e4 : rzF (s_checked_b10 (callF CC (n+1)) base) (s_checked_x24 (callF CC (n+1)) base) (updName "tasks") (s_checked_i11 (callF CC (n+1)) base ρ1) ρ1 (H ++ [dS s1]) = rzL (s_checked_b10 (callF CC (n+1)) base) (s_checked_x24 (callF CC (n+1)) base) (updName "tasks") (starts.map iL) ρ1 (H ++ [dS s1]) := by
      simp only [rzF, i11, Qa, Qb, Qc, Qd, Qe, Qf, retS, nxt, asgN, asgT, Qg, Qh, Qi, Qj, Qk, Ql, Qm, Qn, ne_eq, binR, Qo, Qp, subI, subS, noneE, listD, tupD, Qq, Qr, callP, callQ, Qs, Qt, Qu, Qv, callLen, Qw, Qx, Qy, Qz, QA, QB, QC, QD, QE, QF, QG, QH, QI, QJ, QK, QL, QM, QN, QO, QP, QQ, QR, QS, tob, QT, notB, notV, QU, QV, QW, QX, QY, QZ, Q0, cond_true, cond_false, isR, Q1, Q2, Q3, Q4, Q5, isTup, isLis, isStr, isInt, isBoo, updTup, updAll, updName, Q6, Q7, Q8, Q9, Za, Zb, Zc, Zd, Ze, Zf, Zg, sz0, sz1, sz2, sz3, sz4, sz5, Zh, Zi, Zj, List.map_cons, List.map_nil, List.length_cons, List.length_nil, List.length_map, List.any_cons, List.any_nil, id, if_true, if_false, Bool.not_true, Bool.not_false, Bool.or_false, Bool.false_or, Bool.or_true, Bool.true_or, Bool.and_true, Bool.true_and, Bool.and_false, Bool.false_and, Option.map_some, Option.map_none, decide_true, decide_false, String.reduceEq, reduceIte, Nat.reduceAdd, Int.reduceLT, Int.reduceLE, Nat.reduceLeDiff, Bool.false_eq_true, reduceCtorEq, not_false_eq_true, not_true_eq_false, decide_not]
    simp only [s_checked_k16, s_checked_x25, e3, e4]
    cases hq2 : scan (fun r => row1 (brood.length : Int) (-1, r)) starts s1 with
    | inl e =>
      rw [hq2] at L2
      obtain ⟨l3, H', l4⟩ := L2
      rw [l3, l4]
      exact ⟨rfl, H', rfl⟩
    | inr s2 =>
      rw [hq2] at L2
      obtain ⟨ρ2, l3, C2⟩ := L2
      rw [l3, Qc]
      have c1 := copies (c := s_checked_c12) (i := s_checked_i13) (Φ := callF CC (n+1)) (b := base) (x := "children") (ρ := ρ2) (G := H ++ [dS s2]) (rows := brood) (fun t _ G => by simp only [s_checked_c12, iL, Qa, Qb, Qc, Qd, Qe, Qf, retS, nxt, asgN, asgT, Qg, Qh, Qi, Qj, Qk, Ql, Qm, Qn, ne_eq, binR, Qo, Qp, subI, subS, noneE, listD, tupD, Qq, Qr, callP, callQ, Qs, Qt, Qu, Qv, callLen, Qw, Qx, Qy, Qz, QA, QB, QC, QD, QE, QF, QG, QH, QI, QJ, QK, QL, QM, QN, QO, QP, QQ, QR, QS, tob, QT, notB, notV, QU, QV, QW, QX, QY, QZ, Q0, cond_true, cond_false, isR, Q1, Q2, Q3, Q4, Q5, isTup, isLis, isStr, isInt, isBoo, updTup, updAll, updName, Q6, Q7, Q8, Q9, Za, Zb, Zc, Zd, Ze, Zf, Zg, sz0, sz1, sz2, sz3, sz4, sz5, Zh, Zi, Zj, List.map_cons, List.map_nil, List.length_cons, List.length_nil, List.length_map, List.any_cons, List.any_nil, id, if_true, if_false, Bool.not_true, Bool.not_false, Bool.or_false, Bool.false_or, Bool.or_true, Bool.true_or, Bool.and_true, Bool.true_and, Bool.and_false, Bool.false_and, Option.map_some, Option.map_none, decide_true, decide_false, String.reduceEq, reduceIte, Nat.reduceAdd, Int.reduceLT, Int.reduceLE, Nat.reduceLeDiff, Bool.false_eq_true, reduceCtorEq, not_false_eq_true, not_true_eq_false, decide_not]; exact madeV_row) (lkp_some C2.br) (szOf (by lia))
      have c2 := copies (c := s_checked_c14) (i := s_checked_i11) (Φ := callF CC (n+1)) (b := base) (x := "tasks") (ρ := ρ2) (G := tab (H ++ [dS s2]) brood) (rows := starts) (fun t _ G => by simp only [s_checked_c14, iL, Qa, Qb, Qc, Qd, Qe, Qf, retS, nxt, asgN, asgT, Qg, Qh, Qi, Qj, Qk, Ql, Qm, Qn, ne_eq, binR, Qo, Qp, subI, subS, noneE, listD, tupD, Qq, Qr, callP, callQ, Qs, Qt, Qu, Qv, callLen, Qw, Qx, Qy, Qz, QA, QB, QC, QD, QE, QF, QG, QH, QI, QJ, QK, QL, QM, QN, QO, QP, QQ, QR, QS, tob, QT, notB, notV, QU, QV, QW, QX, QY, QZ, Q0, cond_true, cond_false, isR, Q1, Q2, Q3, Q4, Q5, isTup, isLis, isStr, isInt, isBoo, updTup, updAll, updName, Q6, Q7, Q8, Q9, Za, Zb, Zc, Zd, Ze, Zf, Zg, sz0, sz1, sz2, sz3, sz4, sz5, Zh, Zi, Zj, List.map_cons, List.map_nil, List.length_cons, List.length_nil, List.length_map, List.any_cons, List.any_nil, id, if_true, if_false, Bool.not_true, Bool.not_false, Bool.or_false, Bool.false_or, Bool.or_true, Bool.true_or, Bool.and_true, Bool.true_and, Bool.and_false, Bool.false_and, Option.map_some, Option.map_none, decide_true, decide_false, String.reduceEq, reduceIte, Nat.reduceAdd, Int.reduceLT, Int.reduceLE, Nat.reduceLeDiff, Bool.false_eq_true, reduceCtorEq, not_false_eq_true, not_true_eq_false, decide_not]; exact madeV_row) (lkp_some C2.st) (szOf (by lia))
      have hl : (H ++ [dS s2]).length = H.length + 1 := by simp
      rw [hl] at c1
      rw [tab_len, hl] at c2
      simp only [s_checked_k15, c1, c2, Qa, Qb, Qc, Qd, Qe, Qf, retS, nxt, asgN, asgT, Qg, Qh, Qi, Qj, Qk, Ql, Qm, Qn, ne_eq, binR, Qo, Qp, subI, subS, noneE, listD, tupD, Qq, Qr, callP, callQ, Qs, Qt, Qu, Qv, callLen, Qw, Qx, Qy, Qz, QA, QB, QC, QD, QE, QF, QG, QH, QI, QJ, QK, QL, QM, QN, QO, QP, QQ, QR, QS, tob, QT, notB, notV, QU, QV, QW, QX, QY, QZ, Q0, cond_true, cond_false, isR, Q1, Q2, Q3, Q4, Q5, isTup, isLis, isStr, isInt, isBoo, updTup, updAll, updName, Q6, Q7, Q8, Q9, Za, Zb, Zc, Zd, Ze, Zf, Zg, sz0, sz1, sz2, sz3, sz4, sz5, Zh, Zi, Zj, List.map_cons, List.map_nil, List.length_cons, List.length_nil, List.length_map, List.any_cons, List.any_nil, id, if_true, if_false, Bool.not_true, Bool.not_false, Bool.or_false, Bool.false_or, Bool.or_true, Bool.true_or, Bool.and_true, Bool.true_and, Bool.and_false, Bool.false_and, Option.map_some, Option.map_none, decide_true, decide_false, String.reduceEq, reduceIte, Nat.reduceAdd, Int.reduceLT, Int.reduceLE, Nat.reduceLeDiff, Bool.false_eq_true, reduceCtorEq, not_false_eq_true, not_true_eq_false, decide_not]
end
/-! ### the law's own look -/
structure WE (H : HP) (brood : List (List Int)) (ρ : Loc) : Prop where
  br : ρ "_law_brood" = some (.list (brood.map iL))
  se : ρ "_law_seen" = some (.ref H.length)
structure WP (H : HP) (brood : List (List Int)) (p : Int) (ρ : Loc) : Prop where
  c : WE H brood ρ
  pa : ρ "_law_parent" = some (.int p)
theorem catLL {x y : List AV} {H : HP} (h : x.length + y.length ≤ sizeMax) : binV .Add (.list x) (.list y) H = some (.list (x ++ y)) := by
  show (if x.length + y.length ≤ sizeMax then _ else none) = _
  rw [if_pos h]
theorem pr_get : ∀ (k : Nat) (rows : List (List Int)) (i : Nat), (pr k rows)[i]? = rows[i]?.map fun r => (((k + i : Nat) : Int), r)
  | _, [], _ => rfl
  | k, r :: rs, 0 => rfl
  | k, r :: rs, i + 1 => by
    rw [pr, List.getElem?_cons_succ, List.getElem?_cons_succ, pr_get (k + 1) rs i]
    congr 1; funext r; rw [Nat.add_right_comm]; rfl
theorem range_pr (brood : List (List Int)) (f : AV → AV) (hf : ∀ (i : Nat) (h : i < brood.length), f (.int (i : Int)) = vP ((i : Int), brood[i])) : (rangeL 0 (brood.length : Int)).map f = (pr 0 brood).map vP := by
  rw [rangeL_nat, List.map_map]
  apply List.ext_getElem?
  intro i
  rw [List.getElem?_map, List.getElem?_map, pr_get]
  by_cases h : i < brood.length
  · rw [List.getElem?_eq_getElem h, List.getElem?_range h]
    simp only [Option.map_some, Function.comp, hf i h, Nat.zero_add]
  · rw [List.getElem?_eq_none (by simpa using h), List.getElem?_eq_none (by simpa using h)]; rfl
section
variable {n base : Nat} {H : HP} {brood starts : List (List Int)} {N : Nat}
theorem body_wr (hN : N ≤ sizeMax) {p : Int} (t : Int) (s : List Int) (ρ : Loc) (c : WP H brood p ρ) (hs : s.length + 1 ≤ N) : ∃ ρ1, updName "_law_task" (.int t) ρ = some ρ1 ∧ match one1 (brood.length : Int) p t s with
      | .inr s' => ∃ ρ', s_law_wrong_b13 (callF CC n) base ρ1 (H ++ [rowO s]) = some (.next, ρ', H ++ [rowO s']) ∧ WP H brood p ρ'
      | .inl e => ∃ ρ' H', s_law_wrong_b13 (callF CC n) base ρ1 (H ++ [rowO s]) = some (.ret (.str (Str.ofString e.tag)), ρ', H') := by
  refine ⟨upd ρ "_law_task" (.int t), rfl, ?_⟩
  have c' : WP H brood p (upd ρ "_law_task" (.int t)) := ⟨⟨by simp only [c.c.br, Qa, Qb, Qc, Qd, Qe, Qf, retS, nxt, asgN, asgT, Qg, Qh, Qi, Qj, Qk, Ql, Qm, Qn, ne_eq, binR, Qo, Qp, subI, subS, noneE, listD, tupD, Qq, Qr, callP, callQ, Qs, Qt, Qu, Qv, callLen, Qw, Qx, Qy, Qz, QA, QB, QC, QD, QE, QF, QG, QH, QI, QJ, QK, QL, QM, QN, QO, QP, QQ, QR, QS, tob, QT, notB, notV, QU, QV, QW, QX, QY, QZ, Q0, cond_true, cond_false, isR, Q1, Q2, Q3, Q4, Q5, isTup, isLis, isStr, isInt, isBoo, updTup, updAll, updName, Q6, Q7, Q8, Q9, Za, Zb, Zc, Zd, Ze, Zf, Zg, sz0, sz1, sz2, sz3, sz4, sz5, Zh, Zi, Zj, List.map_cons, List.map_nil, List.length_cons, List.length_nil, List.length_map, List.any_cons, List.any_nil, id, if_true, if_false, Bool.not_true, Bool.not_false, Bool.or_false, Bool.false_or, Bool.or_true, Bool.true_or, Bool.and_true, Bool.true_and, Bool.and_false, Bool.false_and, Option.map_some, Option.map_none, decide_true, decide_false, String.reduceEq, reduceIte, Nat.reduceAdd, Int.reduceLT, Int.reduceLE, Nat.reduceLeDiff, Bool.false_eq_true, reduceCtorEq, not_false_eq_true, not_true_eq_false, decide_not], by simp only [c.c.se, Qa, Qb, Qc, Qd, Qe, Qf, retS, nxt, asgN, asgT, Qg, Qh, Qi, Qj, Qk, Ql, Qm, Qn, ne_eq, binR, Qo, Qp, subI, subS, noneE, listD, tupD, Qq, Qr, callP, callQ, Qs, Qt, Qu, Qv, callLen, Qw, Qx, Qy, Qz, QA, QB, QC, QD, QE, QF, QG, QH, QI, QJ, QK, QL, QM, QN, QO, QP, QQ, QR, QS, tob, QT, notB, notV, QU, QV, QW, QX, QY, QZ, Q0, cond_true, cond_false, isR, Q1, Q2, Q3, Q4, Q5, isTup, isLis, isStr, isInt, isBoo, updTup, updAll, updName, Q6, Q7, Q8, Q9, Za, Zb, Zc, Zd, Ze, Zf, Zg, sz0, sz1, sz2, sz3, sz4, sz5, Zh, Zi, Zj, List.map_cons, List.map_nil, List.length_cons, List.length_nil, List.length_map, List.any_cons, List.any_nil, id, if_true, if_false, Bool.not_true, Bool.not_false, Bool.or_false, Bool.false_or, Bool.or_true, Bool.true_or, Bool.and_true, Bool.true_and, Bool.and_false, Bool.false_and, Option.map_some, Option.map_none, decide_true, decide_false, String.reduceEq, reduceIte, Nat.reduceAdd, Int.reduceLT, Int.reduceLE, Nat.reduceLeDiff, Bool.false_eq_true, reduceCtorEq, not_false_eq_true, not_true_eq_false, decide_not]⟩, by simp only [c.pa, Qa, Qb, Qc, Qd, Qe, Qf, retS, nxt, asgN, asgT, Qg, Qh, Qi, Qj, Qk, Ql, Qm, Qn, ne_eq, binR, Qo, Qp, subI, subS, noneE, listD, tupD, Qq, Qr, callP, callQ, Qs, Qt, Qu, Qv, callLen, Qw, Qx, Qy, Qz, QA, QB, QC, QD, QE, QF, QG, QH, QI, QJ, QK, QL, QM, QN, QO, QP, QQ, QR, QS, tob, QT, notB, notV, QU, QV, QW, QX, QY, QZ, Q0, cond_true, cond_false, isR, Q1, Q2, Q3, Q4, Q5, isTup, isLis, isStr, isInt, isBoo, updTup, updAll, updName, Q6, Q7, Q8, Q9, Za, Zb, Zc, Zd, Ze, Zf, Zg, sz0, sz1, sz2, sz3, sz4, sz5, Zh, Zi, Zj, List.map_cons, List.map_nil, List.length_cons, List.length_nil, List.length_map, List.any_cons, List.any_nil, id, if_true, if_false, Bool.not_true, Bool.not_false, Bool.or_false, Bool.false_or, Bool.or_true, Bool.true_or, Bool.and_true, Bool.true_and, Bool.and_false, Bool.false_and, Option.map_some, Option.map_none, decide_true, decide_false, String.reduceEq, reduceIte, Nat.reduceAdd, Int.reduceLT, Int.reduceLE, Nat.reduceLeDiff, Bool.false_eq_true, reduceCtorEq, not_false_eq_true, not_true_eq_false, decide_not]⟩
  have k : ∀ G, lkp (upd ρ "_law_task" (.int t)) "_law_task" G = some (.int t, G) := fun G => Qj _ _ _ _
  generalize upd ρ "_law_task" (.int t) = ρ' at c' k
  unfold one1
  by_cases h1 : t < 0 ∨ (brood.length : Int) ≤ t
  · rw [if_pos h1]
    refine ⟨ρ', H ++ [rowO s], ?_⟩
    by_cases h0 : t < 0
    · simp only [s_law_wrong_b13, s_law_wrong_k7, k, h0, Er.tag, Qa, Qb, Qc, Qd, Qe, Qf, retS, nxt, asgN, asgT, Qg, Qh, Qi, Qj, Qk, Ql, Qm, Qn, ne_eq, binR, Qo, Qp, subI, subS, noneE, listD, tupD, Qq, Qr, callP, callQ, Qs, Qt, Qu, Qv, callLen, Qw, Qx, Qy, Qz, QA, QB, QC, QD, QE, QF, QG, QH, QI, QJ, QK, QL, QM, QN, QO, QP, QQ, QR, QS, tob, QT, notB, notV, QU, QV, QW, QX, QY, QZ, Q0, cond_true, cond_false, isR, Q1, Q2, Q3, Q4, Q5, isTup, isLis, isStr, isInt, isBoo, updTup, updAll, updName, Q6, Q7, Q8, Q9, Za, Zb, Zc, Zd, Ze, Zf, Zg, sz0, sz1, sz2, sz3, sz4, sz5, Zh, Zi, Zj, List.map_cons, List.map_nil, List.length_cons, List.length_nil, List.length_map, List.any_cons, List.any_nil, id, if_true, if_false, Bool.not_true, Bool.not_false, Bool.or_false, Bool.false_or, Bool.or_true, Bool.true_or, Bool.and_true, Bool.true_and, Bool.and_false, Bool.false_and, Option.map_some, Option.map_none, decide_true, decide_false, String.reduceEq, reduceIte, Nat.reduceAdd, Int.reduceLT, Int.reduceLE, Nat.reduceLeDiff, Bool.false_eq_true, reduceCtorEq, not_false_eq_true, not_true_eq_false, decide_not]
    · simp only [s_law_wrong_b13, s_law_wrong_k7, k, h0, lkp_some c'.c.br, len_br, h1.resolve_left h0, Er.tag, Qa, Qb, Qc, Qd, Qe, Qf, retS, nxt, asgN, asgT, Qg, Qh, Qi, Qj, Qk, Ql, Qm, Qn, ne_eq, binR, Qo, Qp, subI, subS, noneE, listD, tupD, Qq, Qr, callP, callQ, Qs, Qt, Qu, Qv, callLen, Qw, Qx, Qy, Qz, QA, QB, QC, QD, QE, QF, QG, QH, QI, QJ, QK, QL, QM, QN, QO, QP, QQ, QR, QS, tob, QT, notB, notV, QU, QV, QW, QX, QY, QZ, Q0, cond_true, cond_false, isR, Q1, Q2, Q3, Q4, Q5, isTup, isLis, isStr, isInt, isBoo, updTup, updAll, updName, Q6, Q7, Q8, Q9, Za, Zb, Zc, Zd, Ze, Zf, Zg, sz0, sz1, sz2, sz3, sz4, sz5, Zh, Zi, Zj, List.map_cons, List.map_nil, List.length_cons, List.length_nil, List.length_map, List.any_cons, List.any_nil, id, if_true, if_false, Bool.not_true, Bool.not_false, Bool.or_false, Bool.false_or, Bool.or_true, Bool.true_or, Bool.and_true, Bool.true_and, Bool.and_false, Bool.false_and, Option.map_some, Option.map_none, decide_true, decide_false, String.reduceEq, reduceIte, Nat.reduceAdd, Int.reduceLT, Int.reduceLE, Nat.reduceLeDiff, Bool.false_eq_true, reduceCtorEq, not_false_eq_true, not_true_eq_false, decide_not]
  rw [if_neg h1]
  have h0 : ¬ t < 0 := fun q => h1 (.inl q)
  have h0' : ¬ (brood.length : Int) ≤ t := fun q => h1 (.inr q)
  by_cases h2 : t ≤ p
  · rw [if_pos h2]
    exact ⟨ρ', H ++ [rowO s], by simp only [s_law_wrong_b13, s_law_wrong_k12, s_law_wrong_k8, k, h0, h0', h2, lkp_some c'.c.br, lkp_some c'.pa, len_br, Er.tag, Qa, Qb, Qc, Qd, Qe, Qf, retS, nxt, asgN, asgT, Qg, Qh, Qi, Qj, Qk, Ql, Qm, Qn, ne_eq, binR, Qo, Qp, subI, subS, noneE, listD, tupD, Qq, Qr, callP, callQ, Qs, Qt, Qu, Qv, callLen, Qw, Qx, Qy, Qz, QA, QB, QC, QD, QE, QF, QG, QH, QI, QJ, QK, QL, QM, QN, QO, QP, QQ, QR, QS, tob, QT, notB, notV, QU, QV, QW, QX, QY, QZ, Q0, cond_true, cond_false, isR, Q1, Q2, Q3, Q4, Q5, isTup, isLis, isStr, isInt, isBoo, updTup, updAll, updName, Q6, Q7, Q8, Q9, Za, Zb, Zc, Zd, Ze, Zf, Zg, sz0, sz1, sz2, sz3, sz4, sz5, Zh, Zi, Zj, List.map_cons, List.map_nil, List.length_cons, List.length_nil, List.length_map, List.any_cons, List.any_nil, id, if_true, if_false, Bool.not_true, Bool.not_false, Bool.or_false, Bool.false_or, Bool.or_true, Bool.true_or, Bool.and_true, Bool.true_and, Bool.and_false, Bool.false_and, Option.map_some, Option.map_none, decide_true, decide_false, String.reduceEq, reduceIte, Nat.reduceAdd, Int.reduceLT, Int.reduceLE, Nat.reduceLeDiff, Bool.false_eq_true, reduceCtorEq, not_false_eq_true, not_true_eq_false, decide_not]⟩
  rw [if_neg h2]
  by_cases h3 : t ∈ s
  · rw [if_pos h3]
    exact ⟨ρ', H ++ [rowO s], by simp only [s_law_wrong_b13, s_law_wrong_k12, s_law_wrong_k11, s_law_wrong_k9, k, h0, h0', h2, h3, lkp_some c'.c.br, lkp_some c'.c.se, lkp_some c'.pa, in_row, len_br, Er.tag, Qa, Qb, Qc, Qd, Qe, Qf, retS, nxt, asgN, asgT, Qg, Qh, Qi, Qj, Qk, Ql, Qm, Qn, ne_eq, binR, Qo, Qp, subI, subS, noneE, listD, tupD, Qq, Qr, callP, callQ, Qs, Qt, Qu, Qv, callLen, Qw, Qx, Qy, Qz, QA, QB, QC, QD, QE, QF, QG, QH, QI, QJ, QK, QL, QM, QN, QO, QP, QQ, QR, QS, tob, QT, notB, notV, QU, QV, QW, QX, QY, QZ, Q0, cond_true, cond_false, isR, Q1, Q2, Q3, Q4, Q5, isTup, isLis, isStr, isInt, isBoo, updTup, updAll, updName, Q6, Q7, Q8, Q9, Za, Zb, Zc, Zd, Ze, Zf, Zg, sz0, sz1, sz2, sz3, sz4, sz5, Zh, Zi, Zj, List.map_cons, List.map_nil, List.length_cons, List.length_nil, List.length_map, List.any_cons, List.any_nil, id, if_true, if_false, Bool.not_true, Bool.not_false, Bool.or_false, Bool.false_or, Bool.or_true, Bool.true_or, Bool.and_true, Bool.true_and, Bool.and_false, Bool.false_and, Option.map_some, Option.map_none, decide_true, decide_false, String.reduceEq, reduceIte, Nat.reduceAdd, Int.reduceLT, Int.reduceLE, Nat.reduceLeDiff, Bool.false_eq_true, reduceCtorEq, not_false_eq_true, not_true_eq_false, decide_not]⟩
  rw [if_neg h3]
  have ap := meth_append (base := base) (k := H.length) (o := fun H => lkp ρ' "_law_seen" H) (es := [fun H => lkp ρ' "_law_task" H]) (H := H ++ [rowO s]) (l := s) (t := t) (lkp_some c'.c.se) (by simp only [k, Qa, Qb, Qc, Qd, Qe, Qf, retS, nxt, asgN, asgT, Qg, Qh, Qi, Qj, Qk, Ql, Qm, Qn, ne_eq, binR, Qo, Qp, subI, subS, noneE, listD, tupD, Qq, Qr, callP, callQ, Qs, Qt, Qu, Qv, callLen, Qw, Qx, Qy, Qz, QA, QB, QC, QD, QE, QF, QG, QH, QI, QJ, QK, QL, QM, QN, QO, QP, QQ, QR, QS, tob, QT, notB, notV, QU, QV, QW, QX, QY, QZ, Q0, cond_true, cond_false, isR, Q1, Q2, Q3, Q4, Q5, isTup, isLis, isStr, isInt, isBoo, updTup, updAll, updName, Q6, Q7, Q8, Q9, Za, Zb, Zc, Zd, Ze, Zf, Zg, sz0, sz1, sz2, sz3, sz4, sz5, Zh, Zi, Zj, List.map_cons, List.map_nil, List.length_cons, List.length_nil, List.length_map, List.any_cons, List.any_nil, id, if_true, if_false, Bool.not_true, Bool.not_false, Bool.or_false, Bool.false_or, Bool.or_true, Bool.true_or, Bool.and_true, Bool.true_and, Bool.and_false, Bool.false_and, Option.map_some, Option.map_none, decide_true, decide_false, String.reduceEq, reduceIte, Nat.reduceAdd, Int.reduceLT, Int.reduceLE, Nat.reduceLeDiff, Bool.false_eq_true, reduceCtorEq, not_false_eq_true, not_true_eq_false, decide_not]) (last_get H (rowO s)) (by lia)
  rw [last_set] at ap
  refine ⟨ρ', ?_, c'⟩
  simp only [s_law_wrong_b13, s_law_wrong_k12, s_law_wrong_k11, k, h0, h0', h2, h3, lkp_some c'.c.br, lkp_some c'.c.se, lkp_some c'.pa, in_row, len_br, Qa, Qb, Qc, Qd, Qe, Qf, retS, nxt, asgN, asgT, Qg, Qh, Qi, Qj, Qk, Ql, Qm, Qn, ne_eq, binR, Qo, Qp, subI, subS, noneE, listD, tupD, Qq, Qr, callP, callQ, Qs, Qt, Qu, Qv, callLen, Qw, Qx, Qy, Qz, QA, QB, QC, QD, QE, QF, QG, QH, QI, QJ, QK, QL, QM, QN, QO, QP, QQ, QR, QS, tob, QT, notB, notV, QU, QV, QW, QX, QY, QZ, Q0, cond_true, cond_false, isR, Q1, Q2, Q3, Q4, Q5, isTup, isLis, isStr, isInt, isBoo, updTup, updAll, updName, Q6, Q7, Q8, Q9, Za, Zb, Zc, Zd, Ze, Zf, Zg, sz0, sz1, sz2, sz3, sz4, sz5, Zh, Zi, Zj, List.map_cons, List.map_nil, List.length_cons, List.length_nil, List.length_map, List.any_cons, List.any_nil, id, if_true, if_false, Bool.not_true, Bool.not_false, Bool.or_false, Bool.false_or, Bool.or_true, Bool.true_or, Bool.and_true, Bool.true_and, Bool.and_false, Bool.false_and, Option.map_some, Option.map_none, decide_true, decide_false, String.reduceEq, reduceIte, Nat.reduceAdd, Int.reduceLT, Int.reduceLE, Nat.reduceLeDiff, Bool.false_eq_true, reduceCtorEq, not_false_eq_true, not_true_eq_false, decide_not]
  simp only [s_law_wrong_k10, ap, Qa, Qb, Qc, Qd, Qe, Qf, retS, nxt, asgN, asgT, Qg, Qh, Qi, Qj, Qk, Ql, Qm, Qn, ne_eq, binR, Qo, Qp, subI, subS, noneE, listD, tupD, Qq, Qr, callP, callQ, Qs, Qt, Qu, Qv, callLen, Qw, Qx, Qy, Qz, QA, QB, QC, QD, QE, QF, QG, QH, QI, QJ, QK, QL, QM, QN, QO, QP, QQ, QR, QS, tob, QT, notB, notV, QU, QV, QW, QX, QY, QZ, Q0, cond_true, cond_false, isR, Q1, Q2, Q3, Q4, Q5, isTup, isLis, isStr, isInt, isBoo, updTup, updAll, updName, Q6, Q7, Q8, Q9, Za, Zb, Zc, Zd, Ze, Zf, Zg, sz0, sz1, sz2, sz3, sz4, sz5, Zh, Zi, Zj, List.map_cons, List.map_nil, List.length_cons, List.length_nil, List.length_map, List.any_cons, List.any_nil, id, if_true, if_false, Bool.not_true, Bool.not_false, Bool.or_false, Bool.false_or, Bool.or_true, Bool.true_or, Bool.and_true, Bool.true_and, Bool.and_false, Bool.false_and, Option.map_some, Option.map_none, decide_true, decide_false, String.reduceEq, reduceIte, Nat.reduceAdd, Int.reduceLT, Int.reduceLE, Nat.reduceLeDiff, Bool.false_eq_true, reduceCtorEq, not_false_eq_true, not_true_eq_false, decide_not]
theorem outer_wr (hN : N ≤ sizeMax) (z : Int × List Int) (s : List Int) (ρ : Loc) (c : WE H brood ρ) (hs : s.length + z.2.length ≤ N) : ∃ ρ1, updTup ["_law_parent", "_law_tasks"] (vP z) ρ = some ρ1 ∧ match row1 (brood.length : Int) z s with
      | .inr s' => ∃ ρ', s_law_wrong_b15 (callF CC n) base ρ1 (H ++ [rowO s]) = some (.next, ρ', H ++ [rowO s']) ∧ WE H brood ρ'
      | .inl e => ∃ ρ' H', s_law_wrong_b15 (callF CC n) base ρ1 (H ++ [rowO s]) = some (.ret (.str (Str.ofString e.tag)), ρ', H') := by
  obtain ⟨p, row⟩ := z
  refine ⟨upd (upd ρ "_law_parent" (.int p)) "_law_tasks" (iL row), rfl, ?_⟩
  have c1 : WP H brood p (upd (upd ρ "_law_parent" (.int p)) "_law_tasks" (iL row)) := ⟨⟨by simp only [c.br, Qa, Qb, Qc, Qd, Qe, Qf, retS, nxt, asgN, asgT, Qg, Qh, Qi, Qj, Qk, Ql, Qm, Qn, ne_eq, binR, Qo, Qp, subI, subS, noneE, listD, tupD, Qq, Qr, callP, callQ, Qs, Qt, Qu, Qv, callLen, Qw, Qx, Qy, Qz, QA, QB, QC, QD, QE, QF, QG, QH, QI, QJ, QK, QL, QM, QN, QO, QP, QQ, QR, QS, tob, QT, notB, notV, QU, QV, QW, QX, QY, QZ, Q0, cond_true, cond_false, isR, Q1, Q2, Q3, Q4, Q5, isTup, isLis, isStr, isInt, isBoo, updTup, updAll, updName, Q6, Q7, Q8, Q9, Za, Zb, Zc, Zd, Ze, Zf, Zg, sz0, sz1, sz2, sz3, sz4, sz5, Zh, Zi, Zj, List.map_cons, List.map_nil, List.length_cons, List.length_nil, List.length_map, List.any_cons, List.any_nil, id, if_true, if_false, Bool.not_true, Bool.not_false, Bool.or_false, Bool.false_or, Bool.or_true, Bool.true_or, Bool.and_true, Bool.true_and, Bool.and_false, Bool.false_and, Option.map_some, Option.map_none, decide_true, decide_false, String.reduceEq, reduceIte, Nat.reduceAdd, Int.reduceLT, Int.reduceLE, Nat.reduceLeDiff, Bool.false_eq_true, reduceCtorEq, not_false_eq_true, not_true_eq_false, decide_not], by simp only [c.se, Qa, Qb, Qc, Qd, Qe, Qf, retS, nxt, asgN, asgT, Qg, Qh, Qi, Qj, Qk, Ql, Qm, Qn, ne_eq, binR, Qo, Qp, subI, subS, noneE, listD, tupD, Qq, Qr, callP, callQ, Qs, Qt, Qu, Qv, callLen, Qw, Qx, Qy, Qz, QA, QB, QC, QD, QE, QF, QG, QH, QI, QJ, QK, QL, QM, QN, QO, QP, QQ, QR, QS, tob, QT, notB, notV, QU, QV, QW, QX, QY, QZ, Q0, cond_true, cond_false, isR, Q1, Q2, Q3, Q4, Q5, isTup, isLis, isStr, isInt, isBoo, updTup, updAll, updName, Q6, Q7, Q8, Q9, Za, Zb, Zc, Zd, Ze, Zf, Zg, sz0, sz1, sz2, sz3, sz4, sz5, Zh, Zi, Zj, List.map_cons, List.map_nil, List.length_cons, List.length_nil, List.length_map, List.any_cons, List.any_nil, id, if_true, if_false, Bool.not_true, Bool.not_false, Bool.or_false, Bool.false_or, Bool.or_true, Bool.true_or, Bool.and_true, Bool.true_and, Bool.and_false, Bool.false_and, Option.map_some, Option.map_none, decide_true, decide_false, String.reduceEq, reduceIte, Nat.reduceAdd, Int.reduceLT, Int.reduceLE, Nat.reduceLeDiff, Bool.false_eq_true, reduceCtorEq, not_false_eq_true, not_true_eq_false, decide_not]⟩, by simp only [Qa, Qb, Qc, Qd, Qe, Qf, retS, nxt, asgN, asgT, Qg, Qh, Qi, Qj, Qk, Ql, Qm, Qn, ne_eq, binR, Qo, Qp, subI, subS, noneE, listD, tupD, Qq, Qr, callP, callQ, Qs, Qt, Qu, Qv, callLen, Qw, Qx, Qy, Qz, QA, QB, QC, QD, QE, QF, QG, QH, QI, QJ, QK, QL, QM, QN, QO, QP, QQ, QR, QS, tob, QT, notB, notV, QU, QV, QW, QX, QY, QZ, Q0, cond_true, cond_false, isR, Q1, Q2, Q3, Q4, Q5, isTup, isLis, isStr, isInt, isBoo, updTup, updAll, updName, Q6, Q7, Q8, Q9, Za, Zb, Zc, Zd, Ze, Zf, Zg, sz0, sz1, sz2, sz3, sz4, sz5, Zh, Zi, Zj, List.map_cons, List.map_nil, List.length_cons, List.length_nil, List.length_map, List.any_cons, List.any_nil, id, if_true, if_false, Bool.not_true, Bool.not_false, Bool.or_false, Bool.false_or, Bool.or_true, Bool.true_or, Bool.and_true, Bool.true_and, Bool.and_false, Bool.false_and, Option.map_some, Option.map_none, decide_true, decide_false, String.reduceEq, reduceIte, Nat.reduceAdd, Int.reduceLT, Int.reduceLE, Nat.reduceLeDiff, Bool.false_eq_true, reduceCtorEq, not_false_eq_true, not_true_eq_false, decide_not]⟩
  have i14 : ∀ G, s_law_wrong_i14 (callF CC n) base (upd (upd ρ "_law_parent" (.int p)) "_law_tasks" (iL row)) G = some (iL row, G) := fun G => Qj _ _ _ _
  generalize upd (upd ρ "_law_parent" (.int p)) "_law_tasks" (iL row) = ρ1 at c1 i14
  have L := loop_rt (body := s_law_wrong_b13 (callF CC n) base) (tgt := updName "_law_task") (f := one1 (brood.length : Int) p) (hp := fun s => H ++ [rowO s]) (P := WP H brood p) (v := AV.int) (wt := fun _ => 1) (N := N)
    (fun _ _ _ => one1_len) (fun t s ρ => body_wr hN t s ρ) row s ρ1 c1 (by rw [sum_ones]; exact hs)
  have e1 : forR (s_law_wrong_b13 (callF CC n) base) (updName "_law_task") (s_law_wrong_i14 (callF CC n) base ρ1) ρ1 (H ++ [rowO s]) = forL (s_law_wrong_b13 (callF CC n) base) (updName "_law_task") (row.map AV.int) ρ1 (H ++ [rowO s]) := by
    simp only [forR, i14, iL, Qa, Qb, Qc, Qd, Qe, Qf, retS, nxt, asgN, asgT, Qg, Qh, Qi, Qj, Qk, Ql, Qm, Qn, ne_eq, binR, Qo, Qp, subI, subS, noneE, listD, tupD, Qq, Qr, callP, callQ, Qs, Qt, Qu, Qv, callLen, Qw, Qx, Qy, Qz, QA, QB, QC, QD, QE, QF, QG, QH, QI, QJ, QK, QL, QM, QN, QO, QP, QQ, QR, QS, tob, QT, notB, notV, QU, QV, QW, QX, QY, QZ, Q0, cond_true, cond_false, isR, Q1, Q2, Q3, Q4, Q5, isTup, isLis, isStr, isInt, isBoo, updTup, updAll, updName, Q6, Q7, Q8, Q9, Za, Zb, Zc, Zd, Ze, Zf, Zg, sz0, sz1, sz2, sz3, sz4, sz5, Zh, Zi, Zj, List.map_cons, List.map_nil, List.length_cons, List.length_nil, List.length_map, List.any_cons, List.any_nil, id, if_true, if_false, Bool.not_true, Bool.not_false, Bool.or_false, Bool.false_or, Bool.or_true, Bool.true_or, Bool.and_true, Bool.true_and, Bool.and_false, Bool.false_and, Option.map_some, Option.map_none, decide_true, decide_false, String.reduceEq, reduceIte, Nat.reduceAdd, Int.reduceLT, Int.reduceLE, Nat.reduceLeDiff, Bool.false_eq_true, reduceCtorEq, not_false_eq_true, not_true_eq_false, decide_not]
  simp only [s_law_wrong_b15, e1]
  show match scan (one1 (brood.length : Int) p) row s with | .inr s' => _ | .inl e => _
  cases hq : scan (one1 (brood.length : Int) p) row s with
  | inl e =>
    rw [hq] at L
    obtain ⟨ρ', H', l1⟩ := L
    rw [l1]
    exact ⟨ρ', H', rfl⟩
  | inr s' =>
    rw [hq] at L
    obtain ⟨ρ', l1, l2⟩ := L
    rw [l1]
    exact ⟨ρ', rfl, l2.c⟩
theorem wrong_many (n base : Nat) (H : HP) (h : 200 < brood.length) : callF CC (n+1) base "_law_wrong" [.list (brood.map iL), .list (starts.map iL)] H = some (.str "many", H) := by
  rw [g_law_wrong]
  have h' : (200 : Int) < (brood.length : Int) := by lia
  simp only [s_law_wrong, s_law_wrong_body, s_law_wrong_k1, len_br, h', Qa, Qb, Qc, Qd, Qe, Qf, retS, nxt, asgN, asgT, Qg, Qh, Qi, Qj, Qk, Ql, Qm, Qn, ne_eq, binR, Qo, Qp, subI, subS, noneE, listD, tupD, Qq, Qr, callP, callQ, Qs, Qt, Qu, Qv, callLen, Qw, Qx, Qy, Qz, QA, QB, QC, QD, QE, QF, QG, QH, QI, QJ, QK, QL, QM, QN, QO, QP, QQ, QR, QS, tob, QT, notB, notV, QU, QV, QW, QX, QY, QZ, Q0, cond_true, cond_false, isR, Q1, Q2, Q3, Q4, Q5, isTup, isLis, isStr, isInt, isBoo, updTup, updAll, updName, Q6, Q7, Q8, Q9, Za, Zb, Zc, Zd, Ze, Zf, Zg, sz0, sz1, sz2, sz3, sz4, sz5, Zh, Zi, Zj, List.map_cons, List.map_nil, List.length_cons, List.length_nil, List.length_map, List.any_cons, List.any_nil, id, if_true, if_false, Bool.not_true, Bool.not_false, Bool.or_false, Bool.false_or, Bool.or_true, Bool.true_or, Bool.and_true, Bool.true_and, Bool.and_false, Bool.false_and, Option.map_some, Option.map_none, decide_true, decide_false, String.reduceEq, reduceIte, Nat.reduceAdd, Int.reduceLT, Int.reduceLE, Nat.reduceLeDiff, Bool.false_eq_true, reduceCtorEq, not_false_eq_true, not_true_eq_false, decide_not]
theorem wrong_crew (n base : Nat) (H : HP) (h : ¬ 200 < brood.length) (hc : starts.length < 1 ∨ 12 < starts.length) : callF CC (n+1) base "_law_wrong" [.list (brood.map iL), .list (starts.map iL)] H = some (.str "crew", H) := by
  rw [g_law_wrong]
  have h' : ¬ (200 : Int) < (brood.length : Int) := by lia
  by_cases q : (starts.length : Int) < 1
  · simp only [s_law_wrong, s_law_wrong_body, s_law_wrong_k21, s_law_wrong_k2, len_br, h', q, Qa, Qb, Qc, Qd, Qe, Qf, retS, nxt, asgN, asgT, Qg, Qh, Qi, Qj, Qk, Ql, Qm, Qn, ne_eq, binR, Qo, Qp, subI, subS, noneE, listD, tupD, Qq, Qr, callP, callQ, Qs, Qt, Qu, Qv, callLen, Qw, Qx, Qy, Qz, QA, QB, QC, QD, QE, QF, QG, QH, QI, QJ, QK, QL, QM, QN, QO, QP, QQ, QR, QS, tob, QT, notB, notV, QU, QV, QW, QX, QY, QZ, Q0, cond_true, cond_false, isR, Q1, Q2, Q3, Q4, Q5, isTup, isLis, isStr, isInt, isBoo, updTup, updAll, updName, Q6, Q7, Q8, Q9, Za, Zb, Zc, Zd, Ze, Zf, Zg, sz0, sz1, sz2, sz3, sz4, sz5, Zh, Zi, Zj, List.map_cons, List.map_nil, List.length_cons, List.length_nil, List.length_map, List.any_cons, List.any_nil, id, if_true, if_false, Bool.not_true, Bool.not_false, Bool.or_false, Bool.false_or, Bool.or_true, Bool.true_or, Bool.and_true, Bool.true_and, Bool.and_false, Bool.false_and, Option.map_some, Option.map_none, decide_true, decide_false, String.reduceEq, reduceIte, Nat.reduceAdd, Int.reduceLT, Int.reduceLE, Nat.reduceLeDiff, Bool.false_eq_true, reduceCtorEq, not_false_eq_true, not_true_eq_false, decide_not]
  · have q2 : (12 : Int) < (starts.length : Int) := by lia
    simp only [s_law_wrong, s_law_wrong_body, s_law_wrong_k21, s_law_wrong_k2, len_br, h', q, q2, Qa, Qb, Qc, Qd, Qe, Qf, retS, nxt, asgN, asgT, Qg, Qh, Qi, Qj, Qk, Ql, Qm, Qn, ne_eq, binR, Qo, Qp, subI, subS, noneE, listD, tupD, Qq, Qr, callP, callQ, Qs, Qt, Qu, Qv, callLen, Qw, Qx, Qy, Qz, QA, QB, QC, QD, QE, QF, QG, QH, QI, QJ, QK, QL, QM, QN, QO, QP, QQ, QR, QS, tob, QT, notB, notV, QU, QV, QW, QX, QY, QZ, Q0, cond_true, cond_false, isR, Q1, Q2, Q3, Q4, Q5, isTup, isLis, isStr, isInt, isBoo, updTup, updAll, updName, Q6, Q7, Q8, Q9, Za, Zb, Zc, Zd, Ze, Zf, Zg, sz0, sz1, sz2, sz3, sz4, sz5, Zh, Zi, Zj, List.map_cons, List.map_nil, List.length_cons, List.length_nil, List.length_map, List.any_cons, List.any_nil, id, if_true, if_false, Bool.not_true, Bool.not_false, Bool.or_false, Bool.false_or, Bool.or_true, Bool.true_or, Bool.and_true, Bool.true_and, Bool.and_false, Bool.false_and, Option.map_some, Option.map_none, decide_true, decide_false, String.reduceEq, reduceIte, Nat.reduceAdd, Int.reduceLT, Int.reduceLE, Nat.reduceLeDiff, Bool.false_eq_true, reduceCtorEq, not_false_eq_true, not_true_eq_false, decide_not]
theorem allR_wt (brood starts : List (List Int)) : ((allR brood starts).map fun z => z.2.length).sum = tot brood starts := by
  rw [allR, List.map_append, List.sum_append, pr_wt, List.map_map]; rfl
theorem wrong_eval (n base : Nat) (H : HP) (h : ¬ 200 < brood.length) (hc : ¬ (starts.length < 1 ∨ 12 < starts.length)) (ht : tot brood starts ≤ sizeMax) : match scan (row1 (brood.length : Int)) (allR brood starts) [] with
      | .inr s => callF CC (n+1) base "_law_wrong" [.list (brood.map iL), .list (starts.map iL)] H = some (.str "", H ++ [rowO s])
      | .inl e => ∃ H', callF CC (n+1) base "_law_wrong" [.list (brood.map iL), .list (starts.map iL)] H = some (.str (Str.ofString e.tag), H') := by
  rw [g_law_wrong]
  have h' : ¬ (200 : Int) < (brood.length : Int) := by lia
  have q : ¬ (starts.length : Int) < 1 := by lia
  have q2 : ¬ (12 : Int) < (starts.length : Int) := by lia
  have r1 : ∀ (ρ : Loc) (G : HP), ρ "_law_brood" = some (.list (brood.map iL)) → compR tt0 (s_law_wrong_c3 (callF CC n) base) "_law_task" ρ (s_law_wrong_i4 (callF CC n) base ρ) G = some ((pr 0 brood).map vP, G) := fun ρ G hb => by
    rw [compR_map (src := .range 0 (brood.length : Int)) (xs := rangeL 0 (brood.length : Int)) (fun v => .tup [v, (getIdx [] (.list (brood.map iL)) v).getD .none]) (by simp only [s_law_wrong_i4, lkp_some hb, len_br, small_len (n := brood.length) (szOf (by lia)), Qa, Qb, Qc, Qd, Qe, Qf, retS, nxt, asgN, asgT, Qg, Qh, Qi, Qj, Qk, Ql, Qm, Qn, ne_eq, binR, Qo, Qp, subI, subS, noneE, listD, tupD, Qq, Qr, callP, callQ, Qs, Qt, Qu, Qv, callLen, Qw, Qx, Qy, Qz, QA, QB, QC, QD, QE, QF, QG, QH, QI, QJ, QK, QL, QM, QN, QO, QP, QQ, QR, QS, tob, QT, notB, notV, QU, QV, QW, QX, QY, QZ, Q0, cond_true, cond_false, isR, Q1, Q2, Q3, Q4, Q5, isTup, isLis, isStr, isInt, isBoo, updTup, updAll, updName, Q6, Q7, Q8, Q9, Za, Zb, Zc, Zd, Ze, Zf, Zg, sz0, sz1, sz2, sz3, sz4, sz5, Zh, Zi, Zj, List.map_cons, List.map_nil, List.length_cons, List.length_nil, List.length_map, List.any_cons, List.any_nil, id, if_true, if_false, Bool.not_true, Bool.not_false, Bool.or_false, Bool.false_or, Bool.or_true, Bool.true_or, Bool.and_true, Bool.true_and, Bool.and_false, Bool.false_and, Option.map_some, Option.map_none, decide_true, decide_false, String.reduceEq, reduceIte, Nat.reduceAdd, Int.reduceLT, Int.reduceLE, Nat.reduceLeDiff, Bool.false_eq_true, reduceCtorEq, not_false_eq_true, not_true_eq_false, decide_not]) rfl (by rw [rangeL_len]; exact szOf (by lia)) (fun v m => by
      obtain ⟨i, hi, rfl⟩ := rangeL_mem m
      have hg : ∀ G, getIdx G (.list (brood.map iL)) (.int (i : Int)) = some (iL brood[i]) := fun G => getIdx_nat (xs := brood.map iL) rfl (by rw [List.getElem?_map, List.getElem?_eq_getElem hi]; rfl)
      simp only [s_law_wrong_c3, lkp_some hb, hg, Option.getD_some, Qa, Qb, Qc, Qd, Qe, Qf, retS, nxt, asgN, asgT, Qg, Qh, Qi, Qj, Qk, Ql, Qm, Qn, ne_eq, binR, Qo, Qp, subI, subS, noneE, listD, tupD, Qq, Qr, callP, callQ, Qs, Qt, Qu, Qv, callLen, Qw, Qx, Qy, Qz, QA, QB, QC, QD, QE, QF, QG, QH, QI, QJ, QK, QL, QM, QN, QO, QP, QQ, QR, QS, tob, QT, notB, notV, QU, QV, QW, QX, QY, QZ, Q0, cond_true, cond_false, isR, Q1, Q2, Q3, Q4, Q5, isTup, isLis, isStr, isInt, isBoo, updTup, updAll, updName, Q6, Q7, Q8, Q9, Za, Zb, Zc, Zd, Ze, Zf, Zg, sz0, sz1, sz2, sz3, sz4, sz5, Zh, Zi, Zj, List.map_cons, List.map_nil, List.length_cons, List.length_nil, List.length_map, List.any_cons, List.any_nil, id, if_true, if_false, Bool.not_true, Bool.not_false, Bool.or_false, Bool.false_or, Bool.or_true, Bool.true_or, Bool.and_true, Bool.true_and, Bool.and_false, Bool.false_and, Option.map_some, Option.map_none, decide_true, decide_false, String.reduceEq, reduceIte, Nat.reduceAdd, Int.reduceLT, Int.reduceLE, Nat.reduceLeDiff, Bool.false_eq_true, reduceCtorEq, not_false_eq_true, not_true_eq_false, decide_not])]
    rw [range_pr brood _ fun i hi => by
      rw [getIdx_nat (xs := brood.map iL) (v := iL brood[i]) rfl (by rw [List.getElem?_map, List.getElem?_eq_getElem hi]; rfl)]; rfl]
  have r2 : ∀ (ρ : Loc) (G : HP), ρ "_law_starts" = some (.list (starts.map iL)) → compR tt0 (s_law_wrong_c5 (callF CC n) base) "_law_row" ρ (s_law_wrong_i6 (callF CC n) base ρ) G = some ((starts.map fun r => ((-1 : Int), r)).map vP, G) := fun ρ G hb => by
    rw [compR_map (src := .list (starts.map iL)) (xs := starts.map iL) (fun v => .tup [.int (-1), v]) (show s_law_wrong_i6 (callF CC n) base ρ G = _ from lkp_some hb) rfl (by rw [List.length_map]; exact szOf (by lia)) (fun v m => by
      have hn : ∀ G, negV (some (AV.int 1, G)) = some (AV.int (-1), G) := fun _ => rfl
      simp only [s_law_wrong_c5, hn, Qa, Qb, Qc, Qd, Qe, Qf, retS, nxt, asgN, asgT, Qg, Qh, Qi, Qj, Qk, Ql, Qm, Qn, ne_eq, binR, Qo, Qp, subI, subS, noneE, listD, tupD, Qq, Qr, callP, callQ, Qs, Qt, Qu, Qv, callLen, Qw, Qx, Qy, Qz, QA, QB, QC, QD, QE, QF, QG, QH, QI, QJ, QK, QL, QM, QN, QO, QP, QQ, QR, QS, tob, QT, notB, notV, QU, QV, QW, QX, QY, QZ, Q0, cond_true, cond_false, isR, Q1, Q2, Q3, Q4, Q5, isTup, isLis, isStr, isInt, isBoo, updTup, updAll, updName, Q6, Q7, Q8, Q9, Za, Zb, Zc, Zd, Ze, Zf, Zg, sz0, sz1, sz2, sz3, sz4, sz5, Zh, Zi, Zj, List.map_cons, List.map_nil, List.length_cons, List.length_nil, List.length_map, List.any_cons, List.any_nil, id, if_true, if_false, Bool.not_true, Bool.not_false, Bool.or_false, Bool.false_or, Bool.or_true, Bool.true_or, Bool.and_true, Bool.true_and, Bool.and_false, Bool.false_and, Option.map_some, Option.map_none, decide_true, decide_false, String.reduceEq, reduceIte, Nat.reduceAdd, Int.reduceLT, Int.reduceLE, Nat.reduceLeDiff, Bool.false_eq_true, reduceCtorEq, not_false_eq_true, not_true_eq_false, decide_not])]
    rw [List.map_map, List.map_map]; rfl
  have pl : (pr 0 brood).length = brood.length := by
    have := congrArg List.length (enumL_pr 0 brood)
    rw [List.length_map, enumL_len, List.length_map] at this
    exact this.symm
  have cat : ∀ G, binV .Add (.list ((pr 0 brood).map vP)) (.list ((starts.map fun r => ((-1 : Int), r)).map vP)) G = some (.list ((allR brood starts).map vP)) := fun G => by
    rw [catLL (by simp only [List.length_map, pl]; exact szOf (by lia)), allR, List.map_append]
  generalize e0 : upd (upd (upd (upd locNil "_law_brood" (.list (brood.map iL))) "_law_starts" (.list (starts.map iL))) "_law_seen" (.ref H.length)) "_law_rows" (.list ((allR brood starts).map vP)) = ρ0
  have C0 : WE H brood ρ0 := by rw [← e0]; exact ⟨by simp only [Qa, Qb, Qc, Qd, Qe, Qf, retS, nxt, asgN, asgT, Qg, Qh, Qi, Qj, Qk, Ql, Qm, Qn, ne_eq, binR, Qo, Qp, subI, subS, noneE, listD, tupD, Qq, Qr, callP, callQ, Qs, Qt, Qu, Qv, callLen, Qw, Qx, Qy, Qz, QA, QB, QC, QD, QE, QF, QG, QH, QI, QJ, QK, QL, QM, QN, QO, QP, QQ, QR, QS, tob, QT, notB, notV, QU, QV, QW, QX, QY, QZ, Q0, cond_true, cond_false, isR, Q1, Q2, Q3, Q4, Q5, isTup, isLis, isStr, isInt, isBoo, updTup, updAll, updName, Q6, Q7, Q8, Q9, Za, Zb, Zc, Zd, Ze, Zf, Zg, sz0, sz1, sz2, sz3, sz4, sz5, Zh, Zi, Zj, List.map_cons, List.map_nil, List.length_cons, List.length_nil, List.length_map, List.any_cons, List.any_nil, id, if_true, if_false, Bool.not_true, Bool.not_false, Bool.or_false, Bool.false_or, Bool.or_true, Bool.true_or, Bool.and_true, Bool.true_and, Bool.and_false, Bool.false_and, Option.map_some, Option.map_none, decide_true, decide_false, String.reduceEq, reduceIte, Nat.reduceAdd, Int.reduceLT, Int.reduceLE, Nat.reduceLeDiff, Bool.false_eq_true, reduceCtorEq, not_false_eq_true, not_true_eq_false, decide_not], by simp only [Qa, Qb, Qc, Qd, Qe, Qf, retS, nxt, asgN, asgT, Qg, Qh, Qi, Qj, Qk, Ql, Qm, Qn, ne_eq, binR, Qo, Qp, subI, subS, noneE, listD, tupD, Qq, Qr, callP, callQ, Qs, Qt, Qu, Qv, callLen, Qw, Qx, Qy, Qz, QA, QB, QC, QD, QE, QF, QG, QH, QI, QJ, QK, QL, QM, QN, QO, QP, QQ, QR, QS, tob, QT, notB, notV, QU, QV, QW, QX, QY, QZ, Q0, cond_true, cond_false, isR, Q1, Q2, Q3, Q4, Q5, isTup, isLis, isStr, isInt, isBoo, updTup, updAll, updName, Q6, Q7, Q8, Q9, Za, Zb, Zc, Zd, Ze, Zf, Zg, sz0, sz1, sz2, sz3, sz4, sz5, Zh, Zi, Zj, List.map_cons, List.map_nil, List.length_cons, List.length_nil, List.length_map, List.any_cons, List.any_nil, id, if_true, if_false, Bool.not_true, Bool.not_false, Bool.or_false, Bool.false_or, Bool.or_true, Bool.true_or, Bool.and_true, Bool.true_and, Bool.and_false, Bool.false_and, Option.map_some, Option.map_none, decide_true, decide_false, String.reduceEq, reduceIte, Nat.reduceAdd, Int.reduceLT, Int.reduceLE, Nat.reduceLeDiff, Bool.false_eq_true, reduceCtorEq, not_false_eq_true, not_true_eq_false, decide_not]⟩
  have i16 : ∀ G, s_law_wrong_i16 (callF CC n) base ρ0 G = some (.list ((allR brood starts).map vP), G) := fun G => by rw [← e0]; exact Qj _ _ _ _
  have a1 : s_law_wrong (callF CC n) base (.list (brood.map iL)) (.list (starts.map iL)) H = finR (s_law_wrong_k18 (callF CC n) base ρ0 (H ++ [rowO []])) := by
    simp only [s_law_wrong, s_law_wrong_body, s_law_wrong_k21, s_law_wrong_k20, s_law_wrong_k19, len_br, h', q, q2, Qa, Qb, Qc, Qd, Qe, Qf, retS, nxt, asgN, asgT, Qg, Qh, Qi, Qj, Qk, Ql, Qm, Qn, ne_eq, binR, Qo, Qp, subI, subS, noneE, listD, tupD, Qq, Qr, callP, callQ, Qs, Qt, Qu, Qv, callLen, Qw, Qx, Qy, Qz, QA, QB, QC, QD, QE, QF, QG, QH, QI, QJ, QK, QL, QM, QN, QO, QP, QQ, QR, QS, tob, QT, notB, notV, QU, QV, QW, QX, QY, QZ, Q0, cond_true, cond_false, isR, Q1, Q2, Q3, Q4, Q5, isTup, isLis, isStr, isInt, isBoo, updTup, updAll, updName, Q6, Q7, Q8, Q9, Za, Zb, Zc, Zd, Ze, Zf, Zg, sz0, sz1, sz2, sz3, sz4, sz5, Zh, Zi, Zj, List.map_cons, List.map_nil, List.length_cons, List.length_nil, List.length_map, List.any_cons, List.any_nil, id, if_true, if_false, Bool.not_true, Bool.not_false, Bool.or_false, Bool.false_or, Bool.or_true, Bool.true_or, Bool.and_true, Bool.true_and, Bool.and_false, Bool.false_and, Option.map_some, Option.map_none, decide_true, decide_false, String.reduceEq, reduceIte, Nat.reduceAdd, Int.reduceLT, Int.reduceLE, Nat.reduceLeDiff, Bool.false_eq_true, reduceCtorEq, not_false_eq_true, not_true_eq_false, decide_not]
    rw [r1 _ _ (by simp only [Qa, Qb, Qc, Qd, Qe, Qf, retS, nxt, asgN, asgT, Qg, Qh, Qi, Qj, Qk, Ql, Qm, Qn, ne_eq, binR, Qo, Qp, subI, subS, noneE, listD, tupD, Qq, Qr, callP, callQ, Qs, Qt, Qu, Qv, callLen, Qw, Qx, Qy, Qz, QA, QB, QC, QD, QE, QF, QG, QH, QI, QJ, QK, QL, QM, QN, QO, QP, QQ, QR, QS, tob, QT, notB, notV, QU, QV, QW, QX, QY, QZ, Q0, cond_true, cond_false, isR, Q1, Q2, Q3, Q4, Q5, isTup, isLis, isStr, isInt, isBoo, updTup, updAll, updName, Q6, Q7, Q8, Q9, Za, Zb, Zc, Zd, Ze, Zf, Zg, sz0, sz1, sz2, sz3, sz4, sz5, Zh, Zi, Zj, List.map_cons, List.map_nil, List.length_cons, List.length_nil, List.length_map, List.any_cons, List.any_nil, id, if_true, if_false, Bool.not_true, Bool.not_false, Bool.or_false, Bool.false_or, Bool.or_true, Bool.true_or, Bool.and_true, Bool.true_and, Bool.and_false, Bool.false_and, Option.map_some, Option.map_none, decide_true, decide_false, String.reduceEq, reduceIte, Nat.reduceAdd, Int.reduceLT, Int.reduceLE, Nat.reduceLeDiff, Bool.false_eq_true, reduceCtorEq, not_false_eq_true, not_true_eq_false, decide_not])]
    simp only [Q6, Qa]
    rw [r2 _ _ (by simp only [Qa, Qb, Qc, Qd, Qe, Qf, retS, nxt, asgN, asgT, Qg, Qh, Qi, Qj, Qk, Ql, Qm, Qn, ne_eq, binR, Qo, Qp, subI, subS, noneE, listD, tupD, Qq, Qr, callP, callQ, Qs, Qt, Qu, Qv, callLen, Qw, Qx, Qy, Qz, QA, QB, QC, QD, QE, QF, QG, QH, QI, QJ, QK, QL, QM, QN, QO, QP, QQ, QR, QS, tob, QT, notB, notV, QU, QV, QW, QX, QY, QZ, Q0, cond_true, cond_false, isR, Q1, Q2, Q3, Q4, Q5, isTup, isLis, isStr, isInt, isBoo, updTup, updAll, updName, Q6, Q7, Q8, Q9, Za, Zb, Zc, Zd, Ze, Zf, Zg, sz0, sz1, sz2, sz3, sz4, sz5, Zh, Zi, Zj, List.map_cons, List.map_nil, List.length_cons, List.length_nil, List.length_map, List.any_cons, List.any_nil, id, if_true, if_false, Bool.not_true, Bool.not_false, Bool.or_false, Bool.false_or, Bool.or_true, Bool.true_or, Bool.and_true, Bool.true_and, Bool.and_false, Bool.false_and, Option.map_some, Option.map_none, decide_true, decide_false, String.reduceEq, reduceIte, Nat.reduceAdd, Int.reduceLT, Int.reduceLE, Nat.reduceLeDiff, Bool.false_eq_true, reduceCtorEq, not_false_eq_true, not_true_eq_false, decide_not])]
    simp only [cat, e0, Qa, Qb, Qc, Qd, Qe, Qf, retS, nxt, asgN, asgT, Qg, Qh, Qi, Qj, Qk, Ql, Qm, Qn, ne_eq, binR, Qo, Qp, subI, subS, noneE, listD, tupD, Qq, Qr, callP, callQ, Qs, Qt, Qu, Qv, callLen, Qw, Qx, Qy, Qz, QA, QB, QC, QD, QE, QF, QG, QH, QI, QJ, QK, QL, QM, QN, QO, QP, QQ, QR, QS, tob, QT, notB, notV, QU, QV, QW, QX, QY, QZ, Q0, cond_true, cond_false, isR, Q1, Q2, Q3, Q4, Q5, isTup, isLis, isStr, isInt, isBoo, updTup, updAll, updName, Q6, Q7, Q8, Q9, Za, Zb, Zc, Zd, Ze, Zf, Zg, sz0, sz1, sz2, sz3, sz4, sz5, Zh, Zi, Zj, List.map_cons, List.map_nil, List.length_cons, List.length_nil, List.length_map, List.any_cons, List.any_nil, id, if_true, if_false, Bool.not_true, Bool.not_false, Bool.or_false, Bool.false_or, Bool.or_true, Bool.true_or, Bool.and_true, Bool.true_and, Bool.and_false, Bool.false_and, Option.map_some, Option.map_none, decide_true, decide_false, String.reduceEq, reduceIte, Nat.reduceAdd, Int.reduceLT, Int.reduceLE, Nat.reduceLeDiff, Bool.false_eq_true, reduceCtorEq, not_false_eq_true, not_true_eq_false, decide_not]
    rfl
  rw [a1]
  have L := loop_rt (body := s_law_wrong_b15 (callF CC n) base) (tgt := updTup ["_law_parent", "_law_tasks"]) (f := row1 (brood.length : Int)) (hp := fun s => H ++ [rowO s]) (P := WE H brood) (v := vP) (wt := fun z => z.2.length) (N := sizeMax)
    (fun _ _ _ => row1_len) (fun z s ρ => outer_wr (Nat.le_refl _) z s ρ) (allR brood starts) [] ρ0 C0 (by rw [allR_wt]; simpa using ht)
  have e1 : forR (s_law_wrong_b15 (callF CC n) base) (updTup ["_law_parent", "_law_tasks"]) (s_law_wrong_i16 (callF CC n) base ρ0) ρ0 (H ++ [rowO []]) = forL (s_law_wrong_b15 (callF CC n) base) (updTup ["_law_parent", "_law_tasks"]) ((allR brood starts).map vP) ρ0 (H ++ [rowO []]) := by
    simp only [forR, i16, Qa, Qb, Qc, Qd, Qe, Qf, retS, nxt, asgN, asgT, Qg, Qh, Qi, Qj, Qk, Ql, Qm, Qn, ne_eq, binR, Qo, Qp, subI, subS, noneE, listD, tupD, Qq, Qr, callP, callQ, Qs, Qt, Qu, Qv, callLen, Qw, Qx, Qy, Qz, QA, QB, QC, QD, QE, QF, QG, QH, QI, QJ, QK, QL, QM, QN, QO, QP, QQ, QR, QS, tob, QT, notB, notV, QU, QV, QW, QX, QY, QZ, Q0, cond_true, cond_false, isR, Q1, Q2, Q3, Q4, Q5, isTup, isLis, isStr, isInt, isBoo, updTup, updAll, updName, Q6, Q7, Q8, Q9, Za, Zb, Zc, Zd, Ze, Zf, Zg, sz0, sz1, sz2, sz3, sz4, sz5, Zh, Zi, Zj, List.map_cons, List.map_nil, List.length_cons, List.length_nil, List.length_map, List.any_cons, List.any_nil, id, if_true, if_false, Bool.not_true, Bool.not_false, Bool.or_false, Bool.false_or, Bool.or_true, Bool.true_or, Bool.and_true, Bool.true_and, Bool.and_false, Bool.false_and, Option.map_some, Option.map_none, decide_true, decide_false, String.reduceEq, reduceIte, Nat.reduceAdd, Int.reduceLT, Int.reduceLE, Nat.reduceLeDiff, Bool.false_eq_true, reduceCtorEq, not_false_eq_true, not_true_eq_false, decide_not]
  simp only [s_law_wrong_k18, e1]
  cases hq : scan (row1 (brood.length : Int)) (allR brood starts) [] with
  | inl e =>
    rw [hq] at L
    obtain ⟨ρ', H', l1⟩ := L
    rw [l1]
    exact ⟨H', rfl⟩
  | inr s =>
    rw [hq] at L
    obtain ⟨ρ', l1, _⟩ := L
    rw [l1]
    rfl
end
/-! ### what kind of error it is -/
noncomputable def kindS : List (Addr × String) := [(37, "many"), (49, "crew"), (61, "task"), (73, "early"), (85, "twice")]
theorem kind_37 (n base : Nat) (H : HP) : callF CC (n+1) base (qn "_law_kind") [.obj 37] H = some (.str "many", H) := by kernel_rfl
theorem kind_49 (n base : Nat) (H : HP) : callF CC (n+1) base (qn "_law_kind") [.obj 49] H = some (.str "crew", H) := by kernel_rfl
theorem kind_61 (n base : Nat) (H : HP) : callF CC (n+1) base (qn "_law_kind") [.obj 61] H = some (.str "task", H) := by kernel_rfl
theorem kind_73 (n base : Nat) (H : HP) : callF CC (n+1) base (qn "_law_kind") [.obj 73] H = some (.str "early", H) := by kernel_rfl
theorem kind_85 (n base : Nat) (H : HP) : callF CC (n+1) base (qn "_law_kind") [.obj 85] H = some (.str "twice", H) := by kernel_rfl
/-! ### alike -/
theorem isAny_ref {H : HP} {k : Nat} {xs : List AV} (h : H[k]? = some xs) (ts : List Ty) : isAny H (.ref k) ts = some (ts.any isLis) := by
  show (if (false || !(H[k]?).isSome) = true then none else some (ts.any (tyB (.ref k)))) = _
  rw [h]; rfl
theorem alike_int (n base : Nat) (i : Int) (H : HP) : callF CC (n+1) base "_law_alike" [.int i, .int i] H = some (.bool true, H) := by
  rw [g_law_alike]; simp only [s_law_alike, s_law_alike_body, s_law_alike_k1, s_law_alike_k2, s_law_alike_k5, s_law_alike_k6, s_law_alike_k7, s_law_alike_k8, s_law_alike_k9, s_law_alike_k10, s_law_alike_k11, s_law_alike_k12, Qa, Qb, Qc, Qd, Qe, Qf, retS, nxt, asgN, asgT, Qg, Qh, Qi, Qj, Qk, Ql, Qm, Qn, ne_eq, binR, Qo, Qp, subI, subS, noneE, listD, tupD, Qq, Qr, callP, callQ, Qs, Qt, Qu, Qv, callLen, Qw, Qx, Qy, Qz, QA, QB, QC, QD, QE, QF, QG, QH, QI, QJ, QK, QL, QM, QN, QO, QP, QQ, QR, QS, tob, QT, notB, notV, QU, QV, QW, QX, QY, QZ, Q0, cond_true, cond_false, isR, Q1, Q2, Q3, Q4, Q5, isTup, isLis, isStr, isInt, isBoo, updTup, updAll, updName, Q6, Q7, Q8, Q9, Za, Zb, Zc, Zd, Ze, Zf, Zg, sz0, sz1, sz2, sz3, sz4, sz5, Zh, Zi, Zj, List.map_cons, List.map_nil, List.length_cons, List.length_nil, List.length_map, List.any_cons, List.any_nil, id, if_true, if_false, Bool.not_true, Bool.not_false, Bool.or_false, Bool.false_or, Bool.or_true, Bool.true_or, Bool.and_true, Bool.true_and, Bool.and_false, Bool.false_and, Option.map_some, Option.map_none, decide_true, decide_false, String.reduceEq, reduceIte, Nat.reduceAdd, Int.reduceLT, Int.reduceLE, Nat.reduceLeDiff, Bool.false_eq_true, reduceCtorEq, not_false_eq_true, not_true_eq_false, decide_not]
theorem alike_two (n base : Nat) (xs ys : List AV) (v w : AV) (H : HP) (tp : Bool) (hv : isAny H v [.tuple, .list] = some true) (hv' : isAny H v [.tuple] = some tp) (hw : isAny H w [.tuple, .list] = some true) (hw' : isAny H w [.tuple] = some tp)
    (hi : itemsOf H v = some xs) (hj : itemsOf H w = some ys) (hl : xs.length = ys.length) (hs : ys.length ≤ sizeMax)
    (ih : ∀ (i : Nat) (x y : AV), xs[i]? = some x → ys[i]? = some y → callF CC n base "_law_alike" [x, y] H = some (.bool true, H)) : callF CC (n+1) base "_law_alike" [v, w] H = some (.bool true, H) := by
  rw [g_law_alike]
  have hc : ∀ (ρ : Loc) (hf : ρ "_law_found" = some v) (hd : ρ "_law_due" = some w), compR tt0 (s_law_alike_c3 (callF CC n) base) "_law_k" ρ (s_law_alike_i4 (callF CC n) base ρ) H = some ((rangeL 0 (ys.length : Int)).map fun _ => AV.bool true, H) := by
    intro ρ hf hd
    refine compR_map (src := .range 0 (ys.length : Int)) (fun _ => AV.bool true) ?_ rfl (by rw [rangeL_len]; exact hs) ?_
    · simp only [s_law_alike_i4, lkp_some hd, hj, small_len hs, Qa, Qb, Qc, Qd, Qe, Qf, retS, nxt, asgN, asgT, Qg, Qh, Qi, Qj, Qk, Ql, Qm, Qn, ne_eq, binR, Qo, Qp, subI, subS, noneE, listD, tupD, Qq, Qr, callP, callQ, Qs, Qt, Qu, Qv, callLen, Qw, Qx, Qy, Qz, QA, QB, QC, QD, QE, QF, QG, QH, QI, QJ, QK, QL, QM, QN, QO, QP, QQ, QR, QS, tob, QT, notB, notV, QU, QV, QW, QX, QY, QZ, Q0, cond_true, cond_false, isR, Q1, Q2, Q3, Q4, Q5, isTup, isLis, isStr, isInt, isBoo, updTup, updAll, updName, Q6, Q7, Q8, Q9, Za, Zb, Zc, Zd, Ze, Zf, Zg, sz0, sz1, sz2, sz3, sz4, sz5, Zh, Zi, Zj, List.map_cons, List.map_nil, List.length_cons, List.length_nil, List.length_map, List.any_cons, List.any_nil, id, if_true, if_false, Bool.not_true, Bool.not_false, Bool.or_false, Bool.false_or, Bool.or_true, Bool.true_or, Bool.and_true, Bool.true_and, Bool.and_false, Bool.false_and, Option.map_some, Option.map_none, decide_true, decide_false, String.reduceEq, reduceIte, Nat.reduceAdd, Int.reduceLT, Int.reduceLE, Nat.reduceLeDiff, Bool.false_eq_true, reduceCtorEq, not_false_eq_true, not_true_eq_false, decide_not]
    · intro u hu
      obtain ⟨i, hi', rfl⟩ := rangeL_mem hu
      have hx : xs[i]? = some (xs[i]'(by lia)) := List.getElem?_eq_getElem _
      have hy : ys[i]? = some ys[i] := List.getElem?_eq_getElem hi'
      have hg := getIdx_nat (H := H) (o := v) hi hx
      have hg' := getIdx_nat (H := H) (o := w) hj hy
      simp only [s_law_alike_c3, lkp_some hf, lkp_some hd, hg, hg', Qa, Qb, Qc, Qd, Qe, Qf, retS, nxt, asgN, asgT, Qg, Qh, Qi, Qj, Qk, Ql, Qm, Qn, ne_eq, binR, Qo, Qp, subI, subS, noneE, listD, tupD, Qq, Qr, callP, callQ, Qs, Qt, Qu, Qv, callLen, Qw, Qx, Qy, Qz, QA, QB, QC, QD, QE, QF, QG, QH, QI, QJ, QK, QL, QM, QN, QO, QP, QQ, QR, QS, tob, QT, notB, notV, QU, QV, QW, QX, QY, QZ, Q0, cond_true, cond_false, isR, Q1, Q2, Q3, Q4, Q5, isTup, isLis, isStr, isInt, isBoo, updTup, updAll, updName, Q6, Q7, Q8, Q9, Za, Zb, Zc, Zd, Ze, Zf, Zg, sz0, sz1, sz2, sz3, sz4, sz5, Zh, Zi, Zj, List.map_cons, List.map_nil, List.length_cons, List.length_nil, List.length_map, List.any_cons, List.any_nil, id, if_true, if_false, Bool.not_true, Bool.not_false, Bool.or_false, Bool.false_or, Bool.or_true, Bool.true_or, Bool.and_true, Bool.true_and, Bool.and_false, Bool.false_and, Option.map_some, Option.map_none, decide_true, decide_false, String.reduceEq, reduceIte, Nat.reduceAdd, Int.reduceLT, Int.reduceLE, Nat.reduceLeDiff, Bool.false_eq_true, reduceCtorEq, not_false_eq_true, not_true_eq_false, decide_not]
      exact ih i _ _ hx hy
  simp only [s_law_alike, s_law_alike_body, s_law_alike_k7, s_law_alike_k6, s_law_alike_k5, hv, hv', hw, hw', hi, hj, hl, Qa, Qb, Qc, Qd, Qe, Qf, retS, nxt, asgN, asgT, Qg, Qh, Qi, Qj, Qk, Ql, Qm, Qn, ne_eq, binR, Qo, Qp, subI, subS, noneE, listD, tupD, Qq, Qr, callP, callQ, Qs, Qt, Qu, Qv, callLen, Qw, Qx, Qy, Qz, QA, QB, QC, QD, QE, QF, QG, QH, QI, QJ, QK, QL, QM, QN, QO, QP, QQ, QR, QS, tob, QT, notB, notV, QU, QV, QW, QX, QY, QZ, Q0, cond_true, cond_false, isR, Q1, Q2, Q3, Q4, Q5, isTup, isLis, isStr, isInt, isBoo, updTup, updAll, updName, Q6, Q7, Q8, Q9, Za, Zb, Zc, Zd, Ze, Zf, Zg, sz0, sz1, sz2, sz3, sz4, sz5, Zh, Zi, Zj, List.map_cons, List.map_nil, List.length_cons, List.length_nil, List.length_map, List.any_cons, List.any_nil, id, if_true, if_false, Bool.not_true, Bool.not_false, Bool.or_false, Bool.false_or, Bool.or_true, Bool.true_or, Bool.and_true, Bool.true_and, Bool.and_false, Bool.false_and, Option.map_some, Option.map_none, decide_true, decide_false, String.reduceEq, reduceIte, Nat.reduceAdd, Int.reduceLT, Int.reduceLE, Nat.reduceLeDiff, Bool.false_eq_true, reduceCtorEq, not_false_eq_true, not_true_eq_false, decide_not]
  rw [hc _ (by simp only [Qa, Qb, Qc, Qd, Qe, Qf, retS, nxt, asgN, asgT, Qg, Qh, Qi, Qj, Qk, Ql, Qm, Qn, ne_eq, binR, Qo, Qp, subI, subS, noneE, listD, tupD, Qq, Qr, callP, callQ, Qs, Qt, Qu, Qv, callLen, Qw, Qx, Qy, Qz, QA, QB, QC, QD, QE, QF, QG, QH, QI, QJ, QK, QL, QM, QN, QO, QP, QQ, QR, QS, tob, QT, notB, notV, QU, QV, QW, QX, QY, QZ, Q0, cond_true, cond_false, isR, Q1, Q2, Q3, Q4, Q5, isTup, isLis, isStr, isInt, isBoo, updTup, updAll, updName, Q6, Q7, Q8, Q9, Za, Zb, Zc, Zd, Ze, Zf, Zg, sz0, sz1, sz2, sz3, sz4, sz5, Zh, Zi, Zj, List.map_cons, List.map_nil, List.length_cons, List.length_nil, List.length_map, List.any_cons, List.any_nil, id, if_true, if_false, Bool.not_true, Bool.not_false, Bool.or_false, Bool.false_or, Bool.or_true, Bool.true_or, Bool.and_true, Bool.true_and, Bool.and_false, Bool.false_and, Option.map_some, Option.map_none, decide_true, decide_false, String.reduceEq, reduceIte, Nat.reduceAdd, Int.reduceLT, Int.reduceLE, Nat.reduceLeDiff, Bool.false_eq_true, reduceCtorEq, not_false_eq_true, not_true_eq_false, decide_not]) (by simp only [Qa, Qb, Qc, Qd, Qe, Qf, retS, nxt, asgN, asgT, Qg, Qh, Qi, Qj, Qk, Ql, Qm, Qn, ne_eq, binR, Qo, Qp, subI, subS, noneE, listD, tupD, Qq, Qr, callP, callQ, Qs, Qt, Qu, Qv, callLen, Qw, Qx, Qy, Qz, QA, QB, QC, QD, QE, QF, QG, QH, QI, QJ, QK, QL, QM, QN, QO, QP, QQ, QR, QS, tob, QT, notB, notV, QU, QV, QW, QX, QY, QZ, Q0, cond_true, cond_false, isR, Q1, Q2, Q3, Q4, Q5, isTup, isLis, isStr, isInt, isBoo, updTup, updAll, updName, Q6, Q7, Q8, Q9, Za, Zb, Zc, Zd, Ze, Zf, Zg, sz0, sz1, sz2, sz3, sz4, sz5, Zh, Zi, Zj, List.map_cons, List.map_nil, List.length_cons, List.length_nil, List.length_map, List.any_cons, List.any_nil, id, if_true, if_false, Bool.not_true, Bool.not_false, Bool.or_false, Bool.false_or, Bool.or_true, Bool.true_or, Bool.and_true, Bool.true_and, Bool.and_false, Bool.false_and, Option.map_some, Option.map_none, decide_true, decide_false, String.reduceEq, reduceIte, Nat.reduceAdd, Int.reduceLT, Int.reduceLE, Nat.reduceLeDiff, Bool.false_eq_true, reduceCtorEq, not_false_eq_true, not_true_eq_false, decide_not])]
  simp only [boolsOf_const, all_const, Qa, Qb, Qc, Qd, Qe, Qf, retS, nxt, asgN, asgT, Qg, Qh, Qi, Qj, Qk, Ql, Qm, Qn, ne_eq, binR, Qo, Qp, subI, subS, noneE, listD, tupD, Qq, Qr, callP, callQ, Qs, Qt, Qu, Qv, callLen, Qw, Qx, Qy, Qz, QA, QB, QC, QD, QE, QF, QG, QH, QI, QJ, QK, QL, QM, QN, QO, QP, QQ, QR, QS, tob, QT, notB, notV, QU, QV, QW, QX, QY, QZ, Q0, cond_true, cond_false, isR, Q1, Q2, Q3, Q4, Q5, isTup, isLis, isStr, isInt, isBoo, updTup, updAll, updName, Q6, Q7, Q8, Q9, Za, Zb, Zc, Zd, Ze, Zf, Zg, sz0, sz1, sz2, sz3, sz4, sz5, Zh, Zi, Zj, List.map_cons, List.map_nil, List.length_cons, List.length_nil, List.length_map, List.any_cons, List.any_nil, id, if_true, if_false, Bool.not_true, Bool.not_false, Bool.or_false, Bool.false_or, Bool.or_true, Bool.true_or, Bool.and_true, Bool.true_and, Bool.and_false, Bool.false_and, Option.map_some, Option.map_none, decide_true, decide_false, String.reduceEq, reduceIte, Nat.reduceAdd, Int.reduceLT, Int.reduceLE, Nat.reduceLeDiff, Bool.false_eq_true, reduceCtorEq, not_false_eq_true, not_true_eq_false, decide_not]
theorem alike_row (n base : Nat) {H : HP} {k : Nat} {l : List Int} (h : H[k]? = some (rowO l)) (hl : l.length ≤ sizeMax) : callF CC (n+2) base "_law_alike" [.ref k, iL l] H = some (.bool true, H) := by
  refine alike_two (n+1) base (rowO l) (rowO l) (.ref k) (iL l) H false (isAny_ref h _) (isAny_ref h _) rfl rfl h rfl rfl (by rw [rowO, List.length_map]; exact hl) fun i x y hx hy => ?_
  rw [hx] at hy
  cases hy
  rw [rowO, List.getElem?_map] at hx
  cases hq : l[i]? with
  | none => rw [hq] at hx; cases hx
  | some t => rw [hq] at hx; cases hx; exact alike_int n base t H
theorem alike_rows (n base : Nat) {H : HP} {k lo : Nat} {rows : List (List Int)} (h : H[k]? = some (refsFrom lo rows.length)) (hr : ∀ (j : Nat) (row : List Int), rows[j]? = some row → H[lo + j]? = some (rowO row)) (hl : rows.length ≤ sizeMax) (hq : ∀ row ∈ rows, row.length ≤ sizeMax) :
    callF CC (n+3) base "_law_alike" [.ref k, .list (rows.map iL)] H = some (.bool true, H) := by
  refine alike_two (n+2) base (refsFrom lo rows.length) (rows.map iL) (.ref k) (.list (rows.map iL)) H false (isAny_ref h _) (isAny_ref h _) rfl rfl h rfl (by rw [refsFrom_len, List.length_map]) (by rw [List.length_map]; exact hl) fun i x y hx hy => ?_
  rw [List.getElem?_map] at hy
  cases hz : rows[i]? with
  | none => rw [hz] at hy; cases hy
  | some row =>
    rw [hz] at hy
    cases hy
    rw [refsFrom_get (List.getElem?_eq_some_iff.mp hz).1] at hx
    cases hx
    exact alike_row n base (hr i row hz) (hq row (List.mem_of_getElem? hz))

/-! ### the rows that checked gave back -/
noncomputable def ad (L nb j : Nat) : Nat := if j < nb then L + j else L + j + 1
theorem ad_inj {L nb i j : Nat} (h : ad L nb i = ad L nb j) : i = j := by
  unfold ad at h
  split at h <;> split at h <;> lia
theorem ad_lb {L nb j : Nat} : L + nb ≠ ad L nb j := by unfold ad; split <;> lia
theorem ad_ls {L nb m j : Nat} (h : j < nb + m) : L + nb + 1 + m ≠ ad L nb j := by unfold ad; split <;> lia
structure RI (L : Nat) (brood starts : List (List Int)) (i : Nat) (G : HP) : Prop where
  ro : ∀ (j : Nat) (row : List Int), (brood ++ starts)[j]? = some row → G[ad L brood.length j]? = some (rowO (if j < i then row ++ [(j : Int)] else row))
  lb : G[L + brood.length]? = some (refsFrom L brood.length)
  ls : G[L + brood.length + 1 + starts.length]? = some (refsFrom (L + brood.length + 1) starts.length)
theorem RI.zero (G0 : HP) (brood starts : List (List Int)) : RI G0.length brood starts 0 (tab (tab G0 brood) starts) where
  ro := fun j row h => by
    rw [if_neg (Nat.not_lt_zero j)]
    unfold ad
    by_cases q : j < brood.length
    · rw [if_pos q]; rw [List.getElem?_append_left q] at h; exact tabs_row h
    · rw [if_neg q]; rw [List.getElem?_append_right (by lia)] at h
      have := tab_row0 (H := tab G0 brood) h
      rw [tab_len] at this
      rw [show G0.length + j + 1 = G0.length + brood.length + 1 + (j - brood.length) by lia]; exact this
  lb := tabs_list
  ls := by have := tab_list0 (H := tab G0 brood) (s := starts); rw [tab_len] at this; exact this
theorem set_self {G : HP} {k : Nat} {x y : List AV} (h : G[k]? = some x) : (setAO G k y)[k]? = some y := by
  have := (List.getElem?_eq_some_iff.mp h).1
  unfold setAO; rw [List.getElem?_set, if_pos rfl, if_pos this]
theorem set_other {G : HP} {k j : Nat} {y : List AV} (h : k ≠ j) : (setAO G k y)[j]? = G[j]? := by
  unfold setAO; rw [List.getElem?_set, if_neg h]
theorem RI.step {L : Nat} {brood starts : List (List Int)} {i : Nat} {G : HP} (I : RI L brood starts i G) {row : List Int} (h : (brood ++ starts)[i]? = some row) : RI L brood starts (i+1) (setAO G (ad L brood.length i) (rowO (row ++ [(i : Int)]))) where
  ro := fun j r hj => by
    by_cases q : ad L brood.length i = ad L brood.length j
    · have e := ad_inj q
      subst e
      rw [h] at hj
      cases hj
      rw [set_self (I.ro i row h), if_pos (Nat.lt_succ_self i)]
    · have e : j ≠ i := fun e => q (by rw [e])
      rw [set_other q, I.ro j r hj]
      by_cases q2 : j < i
      · rw [if_pos q2, if_pos (by lia)]
      · rw [if_neg q2, if_neg (by lia)]
  lb := by rw [set_other ad_lb.symm]; exact I.lb
  ls := by
    have := (List.getElem?_eq_some_iff.mp h).1
    rw [List.length_append] at this
    rw [set_other (ad_ls this).symm]; exact I.ls
noncomputable def rowsR (L : Nat) (brood starts : List (List Int)) : List AV := refsFrom L brood.length ++ refsFrom (L + brood.length + 1) starts.length
theorem rowsR_len (L : Nat) (brood starts : List (List Int)) : (rowsR L brood starts).length = brood.length + starts.length := by
  rw [rowsR, List.length_append, refsFrom_len, refsFrom_len]
theorem rowsR_get {L j : Nat} {brood starts : List (List Int)} (h : j < brood.length + starts.length) : (rowsR L brood starts)[j]? = some (.ref (ad L brood.length j)) := by
  unfold rowsR ad
  by_cases q : j < brood.length
  · rw [if_pos q, List.getElem?_append_left (by rw [refsFrom_len]; exact q), refsFrom_get q]
  · rw [if_neg q, List.getElem?_append_right (by rw [refsFrom_len]; lia), refsFrom_len, refsFrom_get (by lia)]
    congr 2; lia
theorem alike_found (n base : Nat) {L : Nat} {brood starts : List (List Int)} {G : HP} (I : RI L brood starts 0 G) (h1 : brood.length ≤ sizeMax) (h2 : starts.length ≤ sizeMax) (h3 : ∀ r ∈ brood, r.length ≤ sizeMax) (h4 : ∀ r ∈ starts, r.length ≤ sizeMax) :
    callF CC (n+4) base "_law_alike" [.tup [.ref (L + brood.length), .ref (L + brood.length + 1 + starts.length)], planV brood starts] G = some (.bool true, G) := by
  have a1 := alike_rows n base I.lb (fun j row h => by
    have hj := (List.getElem?_eq_some_iff.mp h).1
    have := I.ro j row (by rw [List.getElem?_append_left hj]; exact h)
    rwa [if_neg (Nat.not_lt_zero j), ad, if_pos hj] at this) h1 h3
  have a2 := alike_rows n base I.ls (fun j row h => by
    have := I.ro (brood.length + j) row (by rw [List.getElem?_append_right (by lia), Nat.add_sub_cancel_left]; exact h)
    rw [if_neg (Nat.not_lt_zero _), ad, if_neg (by lia)] at this
    rw [show L + brood.length + 1 + j = L + (brood.length + j) + 1 by lia]; exact this) h2 h4
  refine alike_two (n+3) base _ _ _ (planV brood starts) G true rfl rfl rfl rfl rfl rfl rfl (szOf (by simp)) fun i x y hx hy => ?_
  match i, hx, hy with
  | 0, hx, hy => cases hx; cases hy; exact a1
  | 1, hx, hy => cases hx; cases hy; exact a2
  | i + 2, hx, hy => cases hx
theorem meth_app {base k : Nat} {o : HP → R AV} {es : List (HP → R AV)} {H : HP} {xs : List AV} {v : AV} (ho : o H = some (.ref k, H)) (he : evA es H = some ([v], H)) (hk : H[k]? = some xs) (hl : xs.length < sizeMax) :
    methQ base .append o es H = some (.none, setAO H k (xs ++ [v])) := by
  have h : lmV H .append xs [v] = some (.none, xs ++ [v]) := by
    show (if xs.length < sizeMax then _ else _) = _
    rw [if_pos hl]
  have hs : isLst H (.ref k) = true := by show (H[k]?).isSome = true; rw [hk]; rfl
  simp only [methQ, ho, Qa, hs, if_true, he, lmD_ok hk h]
theorem cat_refs {G : HP} {a b : Nat} {x y : List AV} (ha : G[a]? = some x) (hb : G[b]? = some y) (h : x.length + y.length ≤ sizeMax) : binV .Add (.ref a) (.ref b) G = some (.list (x ++ y)) := by
  show (match seqOf G (.ref a) with | some x => (match seqOf G (.ref b) with | some y => catL x y | none => none) | none => none) = _
  rw [seqOf_ref ha, seqOf_ref hb]
  show (if x.length + y.length ≤ sizeMax then _ else none) = _
  rw [if_pos h]
theorem eq_plan (brood starts : List (List Int)) (G : HP) : eqV G (planV brood starts) (planV brood starts) = some true := by
  have h : fz G (planV brood starts) = some (planV brood starts) := rsv_frozen (by
    show ((AV.list (brood.map iL)).noRef && ((AV.list (starts.map iL)).noRef && true)) = true
    rw [noRef_rows, noRef_rows]; rfl)
  exact eqV_same h h (by
    show (okD 11 (.list (brood.map iL)) && (okD 11 (.list (starts.map iL)) && true)) = true
    rw [okD_rows (n := 9), okD_rows (n := 9)]; rfl)
theorem copy_rows {c i : Phi → Nat → Loc → HP → R AV} {Φ : Phi} {b : Nat} {x : Str} {ρ : Loc} {G : HP} {rows : List (List Int)} (hc : ∀ t ∈ rows, c Φ b (upd ρ x (iL t)) G = some (iL t, G)) (hi : i Φ b ρ G = some (.list (rows.map iL), G)) (hm : rows.length ≤ sizeMax) :
    frozenL (compR tt0 (c Φ b) x ρ (i Φ b ρ) G) = some (.list (rows.map iL), G) := by
  rw [compR_map (src := .list (rows.map iL)) (xs := rows.map iL) id hi rfl (by rw [List.length_map]; exact hm) (fun v m => by
    obtain ⟨t, ht, rfl⟩ := List.mem_map.mp m
    exact hc t ht), List.map_id, Q6]
/-! ### right -/
structure Sz (m : Nat) (b s : List (List Int)) : Prop where
  lb : b.length ≤ m
  ls : s.length ≤ m
  br : ∀ r ∈ b, r.length ≤ m
  sr : ∀ r ∈ s, r.length ≤ m
theorem Sz.mono {m k : Nat} {b s : List (List Int)} (z : Sz m b s) (h : m ≤ k) : Sz k b s :=
  ⟨Nat.le_trans z.lb h, Nat.le_trans z.ls h, fun r q => Nat.le_trans (z.br r q) h, fun r q => Nat.le_trans (z.sr r q) h⟩
theorem sum_le {m : Nat} : ∀ {b : List (List Int)}, (∀ r ∈ b, r.length ≤ m) → (b.map List.length).sum ≤ b.length * m
  | [], _ => by simp
  | r :: b, h => by
    rw [List.map_cons, List.sum_cons, List.length_cons, Nat.succ_mul]
    have h1 := sum_le (b := b) fun r m => h r (List.mem_cons_of_mem _ m)
    have h2 := h r List.mem_cons_self
    lia
theorem Sz.tot {b s : List (List Int)} (z : Sz 700 b s) : tot b s ≤ sizeMax := by
  have h1 := sum_le z.br
  have h2 := sum_le z.sr
  have h3 := z.lb
  have h4 := z.ls
  unfold Mine.tot sizeMax; lia
structure RE (b s : List (List Int)) (ρ : Loc) : Prop where
  pl : ρ "_law_plan" = some (planV b s)
  gi : ρ "_law_given" = some (planV b s)
theorem right_pre (n base : Nat) {b s : List (List Int)} {H H1 : HP} {due : Str} (z : Sz 700 b s) (hw : callF CC n base "_law_wrong" [.list (b.map iL), .list (s.map iL)] H = some (.str due, H1)) :
    ∃ ρ, RE b s ρ ∧ ρ "_law_due" = some (.str due) ∧ callF CC (n+1) base "_law_right" [planV b s] H = finR (s_law_right_k18 (callF CC n) base ρ H1) := by
  have c1 : ∀ (ρ : Loc), ρ "_law_plan" = some (planV b s) → frozenL (compR tt0 (s_law_right_c1 (callF CC n) base) "_law_row" ρ (s_law_right_i2 (callF CC n) base ρ) H) = some (.list (b.map iL), H) := fun ρ h =>
    copy_rows (c := s_law_right_c1) (i := s_law_right_i2) (fun t _ => by simp only [s_law_right_c1, iL, Qa, Qb, Qc, Qd, Qe, Qf, retS, nxt, asgN, asgT, Qg, Qh, Qi, Qj, Qk, Ql, Qm, Qn, ne_eq, binR, Qo, Qp, subI, subS, noneE, listD, tupD, Qq, Qr, callP, callQ, Qs, Qt, Qu, Qv, callLen, Qw, Qx, Qy, Qz, QA, QB, QC, QD, QE, QF, QG, QH, QI, QJ, QK, QL, QM, QN, QO, QP, QQ, QR, QS, tob, QT, notB, notV, QU, QV, QW, QX, QY, QZ, Q0, cond_true, cond_false, isR, Q1, Q2, Q3, Q4, Q5, isTup, isLis, isStr, isInt, isBoo, updTup, updAll, updName, Q6, Q7, Q8, Q9, Za, Zb, Zc, Zd, Ze, Zf, Zg, sz0, sz1, sz2, sz3, sz4, sz5, Zh, Zi, Zj, List.map_cons, List.map_nil, List.length_cons, List.length_nil, List.length_map, List.any_cons, List.any_nil, id, if_true, if_false, Bool.not_true, Bool.not_false, Bool.or_false, Bool.false_or, Bool.or_true, Bool.true_or, Bool.and_true, Bool.true_and, Bool.and_false, Bool.false_and, Option.map_some, Option.map_none, decide_true, decide_false, String.reduceEq, reduceIte, Nat.reduceAdd, Int.reduceLT, Int.reduceLE, Nat.reduceLeDiff, Bool.false_eq_true, reduceCtorEq, not_false_eq_true, not_true_eq_false, decide_not]) (by simp only [s_law_right_i2, lkp_some h, planV, Qa, Qb, Qc, Qd, Qe, Qf, retS, nxt, asgN, asgT, Qg, Qh, Qi, Qj, Qk, Ql, Qm, Qn, ne_eq, binR, Qo, Qp, subI, subS, noneE, listD, tupD, Qq, Qr, callP, callQ, Qs, Qt, Qu, Qv, callLen, Qw, Qx, Qy, Qz, QA, QB, QC, QD, QE, QF, QG, QH, QI, QJ, QK, QL, QM, QN, QO, QP, QQ, QR, QS, tob, QT, notB, notV, QU, QV, QW, QX, QY, QZ, Q0, cond_true, cond_false, isR, Q1, Q2, Q3, Q4, Q5, isTup, isLis, isStr, isInt, isBoo, updTup, updAll, updName, Q6, Q7, Q8, Q9, Za, Zb, Zc, Zd, Ze, Zf, Zg, sz0, sz1, sz2, sz3, sz4, sz5, Zh, Zi, Zj, List.map_cons, List.map_nil, List.length_cons, List.length_nil, List.length_map, List.any_cons, List.any_nil, id, if_true, if_false, Bool.not_true, Bool.not_false, Bool.or_false, Bool.false_or, Bool.or_true, Bool.true_or, Bool.and_true, Bool.true_and, Bool.and_false, Bool.false_and, Option.map_some, Option.map_none, decide_true, decide_false, String.reduceEq, reduceIte, Nat.reduceAdd, Int.reduceLT, Int.reduceLE, Nat.reduceLeDiff, Bool.false_eq_true, reduceCtorEq, not_false_eq_true, not_true_eq_false, decide_not]) (szOf (by have := z.lb; lia))
  have c2 : ∀ (ρ : Loc), ρ "_law_plan" = some (planV b s) → frozenL (compR tt0 (s_law_right_c3 (callF CC n) base) "_law_row" ρ (s_law_right_i4 (callF CC n) base ρ) H) = some (.list (s.map iL), H) := fun ρ h =>
    copy_rows (c := s_law_right_c3) (i := s_law_right_i4) (fun t _ => by simp only [s_law_right_c3, iL, Qa, Qb, Qc, Qd, Qe, Qf, retS, nxt, asgN, asgT, Qg, Qh, Qi, Qj, Qk, Ql, Qm, Qn, ne_eq, binR, Qo, Qp, subI, subS, noneE, listD, tupD, Qq, Qr, callP, callQ, Qs, Qt, Qu, Qv, callLen, Qw, Qx, Qy, Qz, QA, QB, QC, QD, QE, QF, QG, QH, QI, QJ, QK, QL, QM, QN, QO, QP, QQ, QR, QS, tob, QT, notB, notV, QU, QV, QW, QX, QY, QZ, Q0, cond_true, cond_false, isR, Q1, Q2, Q3, Q4, Q5, isTup, isLis, isStr, isInt, isBoo, updTup, updAll, updName, Q6, Q7, Q8, Q9, Za, Zb, Zc, Zd, Ze, Zf, Zg, sz0, sz1, sz2, sz3, sz4, sz5, Zh, Zi, Zj, List.map_cons, List.map_nil, List.length_cons, List.length_nil, List.length_map, List.any_cons, List.any_nil, id, if_true, if_false, Bool.not_true, Bool.not_false, Bool.or_false, Bool.false_or, Bool.or_true, Bool.true_or, Bool.and_true, Bool.true_and, Bool.and_false, Bool.false_and, Option.map_some, Option.map_none, decide_true, decide_false, String.reduceEq, reduceIte, Nat.reduceAdd, Int.reduceLT, Int.reduceLE, Nat.reduceLeDiff, Bool.false_eq_true, reduceCtorEq, not_false_eq_true, not_true_eq_false, decide_not]) (by simp only [s_law_right_i4, lkp_some h, planV, Qa, Qb, Qc, Qd, Qe, Qf, retS, nxt, asgN, asgT, Qg, Qh, Qi, Qj, Qk, Ql, Qm, Qn, ne_eq, binR, Qo, Qp, subI, subS, noneE, listD, tupD, Qq, Qr, callP, callQ, Qs, Qt, Qu, Qv, callLen, Qw, Qx, Qy, Qz, QA, QB, QC, QD, QE, QF, QG, QH, QI, QJ, QK, QL, QM, QN, QO, QP, QQ, QR, QS, tob, QT, notB, notV, QU, QV, QW, QX, QY, QZ, Q0, cond_true, cond_false, isR, Q1, Q2, Q3, Q4, Q5, isTup, isLis, isStr, isInt, isBoo, updTup, updAll, updName, Q6, Q7, Q8, Q9, Za, Zb, Zc, Zd, Ze, Zf, Zg, sz0, sz1, sz2, sz3, sz4, sz5, Zh, Zi, Zj, List.map_cons, List.map_nil, List.length_cons, List.length_nil, List.length_map, List.any_cons, List.any_nil, id, if_true, if_false, Bool.not_true, Bool.not_false, Bool.or_false, Bool.false_or, Bool.or_true, Bool.true_or, Bool.and_true, Bool.true_and, Bool.and_false, Bool.false_and, Option.map_some, Option.map_none, decide_true, decide_false, String.reduceEq, reduceIte, Nat.reduceAdd, Int.reduceLT, Int.reduceLE, Nat.reduceLeDiff, Bool.false_eq_true, reduceCtorEq, not_false_eq_true, not_true_eq_false, decide_not]) (szOf (by have := z.ls; lia))
  have p0 : ∀ G, getIdx G (planV b s) (.int 0) = some (.list (b.map iL)) := fun G => Q9 G _ _
  have p1 : ∀ G, getIdx G (planV b s) (.int 1) = some (.list (s.map iL)) := fun G => Za G _ _ _
  refine ⟨upd (upd (upd locNil "_law_plan" (planV b s)) "_law_given" (planV b s)) "_law_due" (.str due), ⟨by simp only [Qa, Qb, Qc, Qd, Qe, Qf, retS, nxt, asgN, asgT, Qg, Qh, Qi, Qj, Qk, Ql, Qm, Qn, ne_eq, binR, Qo, Qp, subI, subS, noneE, listD, tupD, Qq, Qr, callP, callQ, Qs, Qt, Qu, Qv, callLen, Qw, Qx, Qy, Qz, QA, QB, QC, QD, QE, QF, QG, QH, QI, QJ, QK, QL, QM, QN, QO, QP, QQ, QR, QS, tob, QT, notB, notV, QU, QV, QW, QX, QY, QZ, Q0, cond_true, cond_false, isR, Q1, Q2, Q3, Q4, Q5, isTup, isLis, isStr, isInt, isBoo, updTup, updAll, updName, Q6, Q7, Q8, Q9, Za, Zb, Zc, Zd, Ze, Zf, Zg, sz0, sz1, sz2, sz3, sz4, sz5, Zh, Zi, Zj, List.map_cons, List.map_nil, List.length_cons, List.length_nil, List.length_map, List.any_cons, List.any_nil, id, if_true, if_false, Bool.not_true, Bool.not_false, Bool.or_false, Bool.false_or, Bool.or_true, Bool.true_or, Bool.and_true, Bool.true_and, Bool.and_false, Bool.false_and, Option.map_some, Option.map_none, decide_true, decide_false, String.reduceEq, reduceIte, Nat.reduceAdd, Int.reduceLT, Int.reduceLE, Nat.reduceLeDiff, Bool.false_eq_true, reduceCtorEq, not_false_eq_true, not_true_eq_false, decide_not], by simp only [Qa, Qb, Qc, Qd, Qe, Qf, retS, nxt, asgN, asgT, Qg, Qh, Qi, Qj, Qk, Ql, Qm, Qn, ne_eq, binR, Qo, Qp, subI, subS, noneE, listD, tupD, Qq, Qr, callP, callQ, Qs, Qt, Qu, Qv, callLen, Qw, Qx, Qy, Qz, QA, QB, QC, QD, QE, QF, QG, QH, QI, QJ, QK, QL, QM, QN, QO, QP, QQ, QR, QS, tob, QT, notB, notV, QU, QV, QW, QX, QY, QZ, Q0, cond_true, cond_false, isR, Q1, Q2, Q3, Q4, Q5, isTup, isLis, isStr, isInt, isBoo, updTup, updAll, updName, Q6, Q7, Q8, Q9, Za, Zb, Zc, Zd, Ze, Zf, Zg, sz0, sz1, sz2, sz3, sz4, sz5, Zh, Zi, Zj, List.map_cons, List.map_nil, List.length_cons, List.length_nil, List.length_map, List.any_cons, List.any_nil, id, if_true, if_false, Bool.not_true, Bool.not_false, Bool.or_false, Bool.false_or, Bool.or_true, Bool.true_or, Bool.and_true, Bool.true_and, Bool.and_false, Bool.false_and, Option.map_some, Option.map_none, decide_true, decide_false, String.reduceEq, reduceIte, Nat.reduceAdd, Int.reduceLT, Int.reduceLE, Nat.reduceLeDiff, Bool.false_eq_true, reduceCtorEq, not_false_eq_true, not_true_eq_false, decide_not]⟩, by simp only [Qa, Qb, Qc, Qd, Qe, Qf, retS, nxt, asgN, asgT, Qg, Qh, Qi, Qj, Qk, Ql, Qm, Qn, ne_eq, binR, Qo, Qp, subI, subS, noneE, listD, tupD, Qq, Qr, callP, callQ, Qs, Qt, Qu, Qv, callLen, Qw, Qx, Qy, Qz, QA, QB, QC, QD, QE, QF, QG, QH, QI, QJ, QK, QL, QM, QN, QO, QP, QQ, QR, QS, tob, QT, notB, notV, QU, QV, QW, QX, QY, QZ, Q0, cond_true, cond_false, isR, Q1, Q2, Q3, Q4, Q5, isTup, isLis, isStr, isInt, isBoo, updTup, updAll, updName, Q6, Q7, Q8, Q9, Za, Zb, Zc, Zd, Ze, Zf, Zg, sz0, sz1, sz2, sz3, sz4, sz5, Zh, Zi, Zj, List.map_cons, List.map_nil, List.length_cons, List.length_nil, List.length_map, List.any_cons, List.any_nil, id, if_true, if_false, Bool.not_true, Bool.not_false, Bool.or_false, Bool.false_or, Bool.or_true, Bool.true_or, Bool.and_true, Bool.true_and, Bool.and_false, Bool.false_and, Option.map_some, Option.map_none, decide_true, decide_false, String.reduceEq, reduceIte, Nat.reduceAdd, Int.reduceLT, Int.reduceLE, Nat.reduceLeDiff, Bool.false_eq_true, reduceCtorEq, not_false_eq_true, not_true_eq_false, decide_not], ?_⟩
  rw [g_law_right]
  simp only [s_law_right, s_law_right_body, Qa, Qb, Qc, Qd, Qe, Qf, retS, nxt, asgN, asgT, Qg, Qh, Qi, Qj, Qk, Ql, Qm, Qn, ne_eq, binR, Qo, Qp, subI, subS, noneE, listD, tupD, Qq, Qr, callP, callQ, Qs, Qt, Qu, Qv, callLen, Qw, Qx, Qy, Qz, QA, QB, QC, QD, QE, QF, QG, QH, QI, QJ, QK, QL, QM, QN, QO, QP, QQ, QR, QS, tob, QT, notB, notV, QU, QV, QW, QX, QY, QZ, Q0, cond_true, cond_false, isR, Q1, Q2, Q3, Q4, Q5, isTup, isLis, isStr, isInt, isBoo, updTup, updAll, updName, Q6, Q7, Q8, Q9, Za, Zb, Zc, Zd, Ze, Zf, Zg, sz0, sz1, sz2, sz3, sz4, sz5, Zh, Zi, Zj, List.map_cons, List.map_nil, List.length_cons, List.length_nil, List.length_map, List.any_cons, List.any_nil, id, if_true, if_false, Bool.not_true, Bool.not_false, Bool.or_false, Bool.false_or, Bool.or_true, Bool.true_or, Bool.and_true, Bool.true_and, Bool.and_false, Bool.false_and, Option.map_some, Option.map_none, decide_true, decide_false, String.reduceEq, reduceIte, Nat.reduceAdd, Int.reduceLT, Int.reduceLE, Nat.reduceLeDiff, Bool.false_eq_true, reduceCtorEq, not_false_eq_true, not_true_eq_false, decide_not]
  rw [c1 _ (by simp only [Qa, Qb, Qc, Qd, Qe, Qf, retS, nxt, asgN, asgT, Qg, Qh, Qi, Qj, Qk, Ql, Qm, Qn, ne_eq, binR, Qo, Qp, subI, subS, noneE, listD, tupD, Qq, Qr, callP, callQ, Qs, Qt, Qu, Qv, callLen, Qw, Qx, Qy, Qz, QA, QB, QC, QD, QE, QF, QG, QH, QI, QJ, QK, QL, QM, QN, QO, QP, QQ, QR, QS, tob, QT, notB, notV, QU, QV, QW, QX, QY, QZ, Q0, cond_true, cond_false, isR, Q1, Q2, Q3, Q4, Q5, isTup, isLis, isStr, isInt, isBoo, updTup, updAll, updName, Q6, Q7, Q8, Q9, Za, Zb, Zc, Zd, Ze, Zf, Zg, sz0, sz1, sz2, sz3, sz4, sz5, Zh, Zi, Zj, List.map_cons, List.map_nil, List.length_cons, List.length_nil, List.length_map, List.any_cons, List.any_nil, id, if_true, if_false, Bool.not_true, Bool.not_false, Bool.or_false, Bool.false_or, Bool.or_true, Bool.true_or, Bool.and_true, Bool.true_and, Bool.and_false, Bool.false_and, Option.map_some, Option.map_none, decide_true, decide_false, String.reduceEq, reduceIte, Nat.reduceAdd, Int.reduceLT, Int.reduceLE, Nat.reduceLeDiff, Bool.false_eq_true, reduceCtorEq, not_false_eq_true, not_true_eq_false, decide_not])]
  simp only [Qa, Qb, Qc, Qd, Qe, Qf, retS, nxt, asgN, asgT, Qg, Qh, Qi, Qj, Qk, Ql, Qm, Qn, ne_eq, binR, Qo, Qp, subI, subS, noneE, listD, tupD, Qq, Qr, callP, callQ, Qs, Qt, Qu, Qv, callLen, Qw, Qx, Qy, Qz, QA, QB, QC, QD, QE, QF, QG, QH, QI, QJ, QK, QL, QM, QN, QO, QP, QQ, QR, QS, tob, QT, notB, notV, QU, QV, QW, QX, QY, QZ, Q0, cond_true, cond_false, isR, Q1, Q2, Q3, Q4, Q5, isTup, isLis, isStr, isInt, isBoo, updTup, updAll, updName, Q6, Q7, Q8, Q9, Za, Zb, Zc, Zd, Ze, Zf, Zg, sz0, sz1, sz2, sz3, sz4, sz5, Zh, Zi, Zj, List.map_cons, List.map_nil, List.length_cons, List.length_nil, List.length_map, List.any_cons, List.any_nil, id, if_true, if_false, Bool.not_true, Bool.not_false, Bool.or_false, Bool.false_or, Bool.or_true, Bool.true_or, Bool.and_true, Bool.true_and, Bool.and_false, Bool.false_and, Option.map_some, Option.map_none, decide_true, decide_false, String.reduceEq, reduceIte, Nat.reduceAdd, Int.reduceLT, Int.reduceLE, Nat.reduceLeDiff, Bool.false_eq_true, reduceCtorEq, not_false_eq_true, not_true_eq_false, decide_not]
  rw [c2 _ (by simp only [Qa, Qb, Qc, Qd, Qe, Qf, retS, nxt, asgN, asgT, Qg, Qh, Qi, Qj, Qk, Ql, Qm, Qn, ne_eq, binR, Qo, Qp, subI, subS, noneE, listD, tupD, Qq, Qr, callP, callQ, Qs, Qt, Qu, Qv, callLen, Qw, Qx, Qy, Qz, QA, QB, QC, QD, QE, QF, QG, QH, QI, QJ, QK, QL, QM, QN, QO, QP, QQ, QR, QS, tob, QT, notB, notV, QU, QV, QW, QX, QY, QZ, Q0, cond_true, cond_false, isR, Q1, Q2, Q3, Q4, Q5, isTup, isLis, isStr, isInt, isBoo, updTup, updAll, updName, Q6, Q7, Q8, Q9, Za, Zb, Zc, Zd, Ze, Zf, Zg, sz0, sz1, sz2, sz3, sz4, sz5, Zh, Zi, Zj, List.map_cons, List.map_nil, List.length_cons, List.length_nil, List.length_map, List.any_cons, List.any_nil, id, if_true, if_false, Bool.not_true, Bool.not_false, Bool.or_false, Bool.false_or, Bool.or_true, Bool.true_or, Bool.and_true, Bool.true_and, Bool.and_false, Bool.false_and, Option.map_some, Option.map_none, decide_true, decide_false, String.reduceEq, reduceIte, Nat.reduceAdd, Int.reduceLT, Int.reduceLE, Nat.reduceLeDiff, Bool.false_eq_true, reduceCtorEq, not_false_eq_true, not_true_eq_false, decide_not])]
  show finR (s_law_right_k19 (callF CC n) base (upd (upd locNil "_law_plan" (planV b s)) "_law_given" (planV b s)) H) = _
  simp only [s_law_right_k19, p0, p1, hw, Qa, Qb, Qc, Qd, Qe, Qf, retS, nxt, asgN, asgT, Qg, Qh, Qi, Qj, Qk, Ql, Qm, Qn, ne_eq, binR, Qo, Qp, subI, subS, noneE, listD, tupD, Qq, Qr, callP, callQ, Qs, Qt, Qu, Qv, callLen, Qw, Qx, Qy, Qz, QA, QB, QC, QD, QE, QF, QG, QH, QI, QJ, QK, QL, QM, QN, QO, QP, QQ, QR, QS, tob, QT, notB, notV, QU, QV, QW, QX, QY, QZ, Q0, cond_true, cond_false, isR, Q1, Q2, Q3, Q4, Q5, isTup, isLis, isStr, isInt, isBoo, updTup, updAll, updName, Q6, Q7, Q8, Q9, Za, Zb, Zc, Zd, Ze, Zf, Zg, sz0, sz1, sz2, sz3, sz4, sz5, Zh, Zi, Zj, List.map_cons, List.map_nil, List.length_cons, List.length_nil, List.length_map, List.any_cons, List.any_nil, id, if_true, if_false, Bool.not_true, Bool.not_false, Bool.or_false, Bool.false_or, Bool.or_true, Bool.true_or, Bool.and_true, Bool.true_and, Bool.and_false, Bool.false_and, Option.map_some, Option.map_none, decide_true, decide_false, String.reduceEq, reduceIte, Nat.reduceAdd, Int.reduceLT, Int.reduceLE, Nat.reduceLeDiff, Bool.false_eq_true, reduceCtorEq, not_false_eq_true, not_true_eq_false, decide_not]
theorem tryR_no {C : Cfg} {y n : Str} {D : Addr} {H : HP} {hb : Loc → HP → RS} {ρ : Loc} (h : ((C.exc.any fun p => p.2 == D) && C.sub D y) = true) : tryR C y n none (some (D, H)) hb ρ = delS (hb (upd ρ n (.obj D)) H) := by
  show (if _ then _ else _) = _
  rw [if_pos h]
theorem tryR_ok {C : Cfg} {y n : Str} (z : Fl × Loc × HP) (x : R Addr) (hb : Loc → HP → RS) (ρ : Loc) : tryR C y n (some z) x hb ρ = some z := rfl
theorem right_bad (n base : Nat) {b s : List (List Int)} {H1 H2 : HP} {due : String} {D : Addr} {ρ : Loc} (e : RE b s ρ) (hd : ρ "_law_due" = some (.str (Str.ofString due))) (hD : ((CC.exc.any fun p => p.2 == D) && CC.sub D "YardError") = true)
    (h1 : callF CC n base "checked" [planV b s] H1 = none) (h2 : callF CC n base (bang "checked") [planV b s] H1 = some (.obj D, H2)) (hk : callF CC n base (qn "_law_kind") [.obj D] H2 = some (.str (Str.ofString due), H2)) :
    s_law_right_k18 (callF CC n) base ρ H1 = some (.ret (.bool true), locNil, H2) := by
  have k5 : s_law_right_k5 (callF CC n) base (upd ρ "_law_e" (.obj D)) H2 = some (.ret (.bool true), upd ρ "_law_e" (.obj D), H2) := by
    simp only [s_law_right_k5, lkp_some e.pl, lkp_some e.gi, lkp_some hd, eq_plan, hk, Qa, Qb, Qc, Qd, Qe, Qf, retS, nxt, asgN, asgT, Qg, Qh, Qi, Qj, Qk, Ql, Qm, Qn, ne_eq, binR, Qo, Qp, subI, subS, noneE, listD, tupD, Qq, Qr, callP, callQ, Qs, Qt, Qu, Qv, callLen, Qw, Qx, Qy, Qz, QA, QB, QC, QD, QE, QF, QG, QH, QI, QJ, QK, QL, QM, QN, QO, QP, QQ, QR, QS, tob, QT, notB, notV, QU, QV, QW, QX, QY, QZ, Q0, cond_true, cond_false, isR, Q1, Q2, Q3, Q4, Q5, isTup, isLis, isStr, isInt, isBoo, updTup, updAll, updName, Q6, Q7, Q8, Q9, Za, Zb, Zc, Zd, Ze, Zf, Zg, sz0, sz1, sz2, sz3, sz4, sz5, Zh, Zi, Zj, List.map_cons, List.map_nil, List.length_cons, List.length_nil, List.length_map, List.any_cons, List.any_nil, id, if_true, if_false, Bool.not_true, Bool.not_false, Bool.or_false, Bool.false_or, Bool.or_true, Bool.true_or, Bool.and_true, Bool.true_and, Bool.and_false, Bool.false_and, Option.map_some, Option.map_none, decide_true, decide_false, String.reduceEq, reduceIte, Nat.reduceAdd, Int.reduceLT, Int.reduceLE, Nat.reduceLeDiff, Bool.false_eq_true, reduceCtorEq, not_false_eq_true, not_true_eq_false, decide_not]
  simp only [s_law_right_k18, lkp_some e.gi, h1, h2, rzC, exV_ok, bnd_no, sq_none, Qa, Qb, Qc, Qd, Qe, Qf, retS, nxt, asgN, asgT, Qg, Qh, Qi, Qj, Qk, Ql, Qm, Qn, ne_eq, binR, Qo, Qp, subI, subS, noneE, listD, tupD, Qq, Qr, callP, callQ, Qs, Qt, Qu, Qv, callLen, Qw, Qx, Qy, Qz, QA, QB, QC, QD, QE, QF, QG, QH, QI, QJ, QK, QL, QM, QN, QO, QP, QQ, QR, QS, tob, QT, notB, notV, QU, QV, QW, QX, QY, QZ, Q0, cond_true, cond_false, isR, Q1, Q2, Q3, Q4, Q5, isTup, isLis, isStr, isInt, isBoo, updTup, updAll, updName, Q6, Q7, Q8, Q9, Za, Zb, Zc, Zd, Ze, Zf, Zg, sz0, sz1, sz2, sz3, sz4, sz5, Zh, Zi, Zj, List.map_cons, List.map_nil, List.length_cons, List.length_nil, List.length_map, List.any_cons, List.any_nil, id, if_true, if_false, Bool.not_true, Bool.not_false, Bool.or_false, Bool.false_or, Bool.or_true, Bool.true_or, Bool.and_true, Bool.true_and, Bool.and_false, Bool.false_and, Option.map_some, Option.map_none, decide_true, decide_false, String.reduceEq, reduceIte, Nat.reduceAdd, Int.reduceLT, Int.reduceLE, Nat.reduceLeDiff, Bool.false_eq_true, reduceCtorEq, not_false_eq_true, not_true_eq_false, decide_not]
  rw [tryR_no hD, k5]
  rfl
structure RF (L : Nat) (b s : List (List Int)) (ρ : Loc) : Prop where
  e : RE b s ρ
  fo : ρ "_law_found" = some (.tup [.ref (L + b.length), .ref (L + b.length + 1 + s.length)])
  ro : ρ "_law_rows" = some (.list (rowsR L b s))
theorem RF.up {L : Nat} {b s : List (List Int)} {ρ : Loc} (f : RF L b s ρ) (v : AV) : RF L b s (upd ρ "_law_k" v) :=
  ⟨⟨by simp only [f.e.pl, Qa, Qb, Qc, Qd, Qe, Qf, retS, nxt, asgN, asgT, Qg, Qh, Qi, Qj, Qk, Ql, Qm, Qn, ne_eq, binR, Qo, Qp, subI, subS, noneE, listD, tupD, Qq, Qr, callP, callQ, Qs, Qt, Qu, Qv, callLen, Qw, Qx, Qy, Qz, QA, QB, QC, QD, QE, QF, QG, QH, QI, QJ, QK, QL, QM, QN, QO, QP, QQ, QR, QS, tob, QT, notB, notV, QU, QV, QW, QX, QY, QZ, Q0, cond_true, cond_false, isR, Q1, Q2, Q3, Q4, Q5, isTup, isLis, isStr, isInt, isBoo, updTup, updAll, updName, Q6, Q7, Q8, Q9, Za, Zb, Zc, Zd, Ze, Zf, Zg, sz0, sz1, sz2, sz3, sz4, sz5, Zh, Zi, Zj, List.map_cons, List.map_nil, List.length_cons, List.length_nil, List.length_map, List.any_cons, List.any_nil, id, if_true, if_false, Bool.not_true, Bool.not_false, Bool.or_false, Bool.false_or, Bool.or_true, Bool.true_or, Bool.and_true, Bool.true_and, Bool.and_false, Bool.false_and, Option.map_some, Option.map_none, decide_true, decide_false, String.reduceEq, reduceIte, Nat.reduceAdd, Int.reduceLT, Int.reduceLE, Nat.reduceLeDiff, Bool.false_eq_true, reduceCtorEq, not_false_eq_true, not_true_eq_false, decide_not], by simp only [f.e.gi, Qa, Qb, Qc, Qd, Qe, Qf, retS, nxt, asgN, asgT, Qg, Qh, Qi, Qj, Qk, Ql, Qm, Qn, ne_eq, binR, Qo, Qp, subI, subS, noneE, listD, tupD, Qq, Qr, callP, callQ, Qs, Qt, Qu, Qv, callLen, Qw, Qx, Qy, Qz, QA, QB, QC, QD, QE, QF, QG, QH, QI, QJ, QK, QL, QM, QN, QO, QP, QQ, QR, QS, tob, QT, notB, notV, QU, QV, QW, QX, QY, QZ, Q0, cond_true, cond_false, isR, Q1, Q2, Q3, Q4, Q5, isTup, isLis, isStr, isInt, isBoo, updTup, updAll, updName, Q6, Q7, Q8, Q9, Za, Zb, Zc, Zd, Ze, Zf, Zg, sz0, sz1, sz2, sz3, sz4, sz5, Zh, Zi, Zj, List.map_cons, List.map_nil, List.length_cons, List.length_nil, List.length_map, List.any_cons, List.any_nil, id, if_true, if_false, Bool.not_true, Bool.not_false, Bool.or_false, Bool.false_or, Bool.or_true, Bool.true_or, Bool.and_true, Bool.true_and, Bool.and_false, Bool.false_and, Option.map_some, Option.map_none, decide_true, decide_false, String.reduceEq, reduceIte, Nat.reduceAdd, Int.reduceLT, Int.reduceLE, Nat.reduceLeDiff, Bool.false_eq_true, reduceCtorEq, not_false_eq_true, not_true_eq_false, decide_not]⟩, by simp only [f.fo, Qa, Qb, Qc, Qd, Qe, Qf, retS, nxt, asgN, asgT, Qg, Qh, Qi, Qj, Qk, Ql, Qm, Qn, ne_eq, binR, Qo, Qp, subI, subS, noneE, listD, tupD, Qq, Qr, callP, callQ, Qs, Qt, Qu, Qv, callLen, Qw, Qx, Qy, Qz, QA, QB, QC, QD, QE, QF, QG, QH, QI, QJ, QK, QL, QM, QN, QO, QP, QQ, QR, QS, tob, QT, notB, notV, QU, QV, QW, QX, QY, QZ, Q0, cond_true, cond_false, isR, Q1, Q2, Q3, Q4, Q5, isTup, isLis, isStr, isInt, isBoo, updTup, updAll, updName, Q6, Q7, Q8, Q9, Za, Zb, Zc, Zd, Ze, Zf, Zg, sz0, sz1, sz2, sz3, sz4, sz5, Zh, Zi, Zj, List.map_cons, List.map_nil, List.length_cons, List.length_nil, List.length_map, List.any_cons, List.any_nil, id, if_true, if_false, Bool.not_true, Bool.not_false, Bool.or_false, Bool.false_or, Bool.or_true, Bool.true_or, Bool.and_true, Bool.true_and, Bool.and_false, Bool.false_and, Option.map_some, Option.map_none, decide_true, decide_false, String.reduceEq, reduceIte, Nat.reduceAdd, Int.reduceLT, Int.reduceLE, Nat.reduceLeDiff, Bool.false_eq_true, reduceCtorEq, not_false_eq_true, not_true_eq_false, decide_not], by simp only [f.ro, Qa, Qb, Qc, Qd, Qe, Qf, retS, nxt, asgN, asgT, Qg, Qh, Qi, Qj, Qk, Ql, Qm, Qn, ne_eq, binR, Qo, Qp, subI, subS, noneE, listD, tupD, Qq, Qr, callP, callQ, Qs, Qt, Qu, Qv, callLen, Qw, Qx, Qy, Qz, QA, QB, QC, QD, QE, QF, QG, QH, QI, QJ, QK, QL, QM, QN, QO, QP, QQ, QR, QS, tob, QT, notB, notV, QU, QV, QW, QX, QY, QZ, Q0, cond_true, cond_false, isR, Q1, Q2, Q3, Q4, Q5, isTup, isLis, isStr, isInt, isBoo, updTup, updAll, updName, Q6, Q7, Q8, Q9, Za, Zb, Zc, Zd, Ze, Zf, Zg, sz0, sz1, sz2, sz3, sz4, sz5, Zh, Zi, Zj, List.map_cons, List.map_nil, List.length_cons, List.length_nil, List.length_map, List.any_cons, List.any_nil, id, if_true, if_false, Bool.not_true, Bool.not_false, Bool.or_false, Bool.false_or, Bool.or_true, Bool.true_or, Bool.and_true, Bool.true_and, Bool.and_false, Bool.false_and, Option.map_some, Option.map_none, decide_true, decide_false, String.reduceEq, reduceIte, Nat.reduceAdd, Int.reduceLT, Int.reduceLE, Nat.reduceLeDiff, Bool.false_eq_true, reduceCtorEq, not_false_eq_true, not_true_eq_false, decide_not]⟩
theorem rows_loop (n base : Nat) {L : Nat} {b s : List (List Int)} {ρ : Loc} {G : HP} (z : Sz 700 b s) (F : RF L b s ρ) (I : RI L b s 0 G) :
    ∃ ρ' G', forR (s_law_right_b7 (callF CC n) base) (updName "_law_k") (s_law_right_i8 (callF CC n) base ρ) ρ G = some (.next, ρ', G') ∧ RF L b s ρ' ∧ RI L b s (b.length + s.length) G' := by
  have hz1 := z.lb
  have hz2 := z.ls
  have it : s_law_right_i8 (callF CC n) base ρ G = some (.range 0 ((b.length + s.length : Nat) : Int), G) := by
    simp only [s_law_right_i8, lkp_some F.ro, rowsR_len, small_len (n := b.length + s.length) (szOf (by lia)), Qa, Qb, Qc, Qd, Qe, Qf, retS, nxt, asgN, asgT, Qg, Qh, Qi, Qj, Qk, Ql, Qm, Qn, ne_eq, binR, Qo, Qp, subI, subS, noneE, listD, tupD, Qq, Qr, callP, callQ, Qs, Qt, Qu, Qv, callLen, Qw, Qx, Qy, Qz, QA, QB, QC, QD, QE, QF, QG, QH, QI, QJ, QK, QL, QM, QN, QO, QP, QQ, QR, QS, tob, QT, notB, notV, QU, QV, QW, QX, QY, QZ, Q0, cond_true, cond_false, isR, Q1, Q2, Q3, Q4, Q5, isTup, isLis, isStr, isInt, isBoo, updTup, updAll, updName, Q6, Q7, Q8, Q9, Za, Zb, Zc, Zd, Ze, Zf, Zg, sz0, sz1, sz2, sz3, sz4, sz5, Zh, Zi, Zj, List.map_cons, List.map_nil, List.length_cons, List.length_nil, List.length_map, List.any_cons, List.any_nil, id, if_true, if_false, Bool.not_true, Bool.not_false, Bool.or_false, Bool.false_or, Bool.or_true, Bool.true_or, Bool.and_true, Bool.true_and, Bool.and_false, Bool.false_and, Option.map_some, Option.map_none, decide_true, decide_false, String.reduceEq, reduceIte, Nat.reduceAdd, Int.reduceLT, Int.reduceLE, Nat.reduceLeDiff, Bool.false_eq_true, reduceCtorEq, not_false_eq_true, not_true_eq_false, decide_not]
  obtain ⟨ρ', G', h1, h2⟩ := forR_inv (body := s_law_right_b7 (callF CC n) base) (tgt := updName "_law_k") (it := s_law_right_i8 (callF CC n) base ρ) (ρ := ρ) (H := G) (xs := rangeL 0 ((b.length + s.length : Nat) : Int))
    (fun i ρ G => RF L b s ρ ∧ RI L b s i G) it rfl ⟨F, I⟩ (by
      rintro i v ρ G hv ⟨F, I⟩
      have hi : i < b.length + s.length := by
        have := (List.getElem?_eq_some_iff.mp hv).1; rwa [rangeL_len] at this
      have hvi : v = .int (i : Int) := by
        rw [rangeL_nat] at hv; simp [hi] at hv; exact hv.symm
      subst hvi
      have hi' : i < (b ++ s).length := by rw [List.length_append]; exact hi
      have hr : (b ++ s)[i]? = some (b ++ s)[i] := List.getElem?_eq_getElem hi'
      have hm : (b ++ s)[i].length ≤ 700 := by
        rcases List.mem_append.mp (List.getElem_mem hi') with q | q
        · exact z.br _ q
        · exact z.sr _ q
      generalize (b ++ s)[i] = row at hr hm
      have hk := I.ro i row hr
      rw [if_neg (Nat.lt_irrefl i)] at hk
      refine ⟨upd ρ "_law_k" (.int (i : Int)), upd ρ "_law_k" (.int (i : Int)), setAO G (ad L b.length i) (rowO (row ++ [(i : Int)])), rfl, ?_, F.up _, I.step hr⟩
      have hg : getIdx G (.list (rowsR L b s)) (.int (i : Int)) = some (.ref (ad L b.length i)) := getIdx_nat rfl (rowsR_get hi)
      unfold s_law_right_b7
      rw [meth_append (k := ad L b.length i) (l := row) (t := (i : Int)) (by simp only [lkp_some F.ro, hg, Qa, Qb, Qc, Qd, Qe, Qf, retS, nxt, asgN, asgT, Qg, Qh, Qi, Qj, Qk, Ql, Qm, Qn, ne_eq, binR, Qo, Qp, subI, subS, noneE, listD, tupD, Qq, Qr, callP, callQ, Qs, Qt, Qu, Qv, callLen, Qw, Qx, Qy, Qz, QA, QB, QC, QD, QE, QF, QG, QH, QI, QJ, QK, QL, QM, QN, QO, QP, QQ, QR, QS, tob, QT, notB, notV, QU, QV, QW, QX, QY, QZ, Q0, cond_true, cond_false, isR, Q1, Q2, Q3, Q4, Q5, isTup, isLis, isStr, isInt, isBoo, updTup, updAll, updName, Q6, Q7, Q8, Q9, Za, Zb, Zc, Zd, Ze, Zf, Zg, sz0, sz1, sz2, sz3, sz4, sz5, Zh, Zi, Zj, List.map_cons, List.map_nil, List.length_cons, List.length_nil, List.length_map, List.any_cons, List.any_nil, id, if_true, if_false, Bool.not_true, Bool.not_false, Bool.or_false, Bool.false_or, Bool.or_true, Bool.true_or, Bool.and_true, Bool.true_and, Bool.and_false, Bool.false_and, Option.map_some, Option.map_none, decide_true, decide_false, String.reduceEq, reduceIte, Nat.reduceAdd, Int.reduceLT, Int.reduceLE, Nat.reduceLeDiff, Bool.false_eq_true, reduceCtorEq, not_false_eq_true, not_true_eq_false, decide_not]) (by simp only [Qa, Qb, Qc, Qd, Qe, Qf, retS, nxt, asgN, asgT, Qg, Qh, Qi, Qj, Qk, Ql, Qm, Qn, ne_eq, binR, Qo, Qp, subI, subS, noneE, listD, tupD, Qq, Qr, callP, callQ, Qs, Qt, Qu, Qv, callLen, Qw, Qx, Qy, Qz, QA, QB, QC, QD, QE, QF, QG, QH, QI, QJ, QK, QL, QM, QN, QO, QP, QQ, QR, QS, tob, QT, notB, notV, QU, QV, QW, QX, QY, QZ, Q0, cond_true, cond_false, isR, Q1, Q2, Q3, Q4, Q5, isTup, isLis, isStr, isInt, isBoo, updTup, updAll, updName, Q6, Q7, Q8, Q9, Za, Zb, Zc, Zd, Ze, Zf, Zg, sz0, sz1, sz2, sz3, sz4, sz5, Zh, Zi, Zj, List.map_cons, List.map_nil, List.length_cons, List.length_nil, List.length_map, List.any_cons, List.any_nil, id, if_true, if_false, Bool.not_true, Bool.not_false, Bool.or_false, Bool.false_or, Bool.or_true, Bool.true_or, Bool.and_true, Bool.true_and, Bool.and_false, Bool.false_and, Option.map_some, Option.map_none, decide_true, decide_false, String.reduceEq, reduceIte, Nat.reduceAdd, Int.reduceLT, Int.reduceLE, Nat.reduceLeDiff, Bool.false_eq_true, reduceCtorEq, not_false_eq_true, not_true_eq_false, decide_not]) hk (by unfold sizeMax; lia)]
      simp only [Qa, Qb, Qc, Qd, Qe, Qf, retS, nxt, asgN, asgT, Qg, Qh, Qi, Qj, Qk, Ql, Qm, Qn, ne_eq, binR, Qo, Qp, subI, subS, noneE, listD, tupD, Qq, Qr, callP, callQ, Qs, Qt, Qu, Qv, callLen, Qw, Qx, Qy, Qz, QA, QB, QC, QD, QE, QF, QG, QH, QI, QJ, QK, QL, QM, QN, QO, QP, QQ, QR, QS, tob, QT, notB, notV, QU, QV, QW, QX, QY, QZ, Q0, cond_true, cond_false, isR, Q1, Q2, Q3, Q4, Q5, isTup, isLis, isStr, isInt, isBoo, updTup, updAll, updName, Q6, Q7, Q8, Q9, Za, Zb, Zc, Zd, Ze, Zf, Zg, sz0, sz1, sz2, sz3, sz4, sz5, Zh, Zi, Zj, List.map_cons, List.map_nil, List.length_cons, List.length_nil, List.length_map, List.any_cons, List.any_nil, id, if_true, if_false, Bool.not_true, Bool.not_false, Bool.or_false, Bool.false_or, Bool.or_true, Bool.true_or, Bool.and_true, Bool.true_and, Bool.and_false, Bool.false_and, Option.map_some, Option.map_none, decide_true, decide_false, String.reduceEq, reduceIte, Nat.reduceAdd, Int.reduceLT, Int.reduceLE, Nat.reduceLeDiff, Bool.false_eq_true, reduceCtorEq, not_false_eq_true, not_true_eq_false, decide_not])
  rw [rangeL_len] at h2
  exact ⟨ρ', G', h1, h2⟩
theorem right_end (n base : Nat) {L : Nat} {b s : List (List Int)} {ρ : Loc} {G : HP} (z : Sz 700 b s) (F : RF L b s ρ) (I : RI L b s (b.length + s.length) G) : ∃ ρ' G', s_law_right_k14 (callF CC n) base ρ G = some (.ret (.bool true), ρ', G') := by
  have hz1 := z.lb
  have hz2 := z.ls
  have m1 : methQ base .append (fun H => subI (fun H => lkp ρ "_law_found" H) (fun H => some (AV.int 0, H)) H) [(fun H => listD [] H)] G = some (.none, setAO G (L + b.length) (refsFrom L b.length ++ [.list []])) :=
    meth_app (by simp only [lkp_some F.fo, Qa, Qb, Qc, Qd, Qe, Qf, retS, nxt, asgN, asgT, Qg, Qh, Qi, Qj, Qk, Ql, Qm, Qn, ne_eq, binR, Qo, Qp, subI, subS, noneE, listD, tupD, Qq, Qr, callP, callQ, Qs, Qt, Qu, Qv, callLen, Qw, Qx, Qy, Qz, QA, QB, QC, QD, QE, QF, QG, QH, QI, QJ, QK, QL, QM, QN, QO, QP, QQ, QR, QS, tob, QT, notB, notV, QU, QV, QW, QX, QY, QZ, Q0, cond_true, cond_false, isR, Q1, Q2, Q3, Q4, Q5, isTup, isLis, isStr, isInt, isBoo, updTup, updAll, updName, Q6, Q7, Q8, Q9, Za, Zb, Zc, Zd, Ze, Zf, Zg, sz0, sz1, sz2, sz3, sz4, sz5, Zh, Zi, Zj, List.map_cons, List.map_nil, List.length_cons, List.length_nil, List.length_map, List.any_cons, List.any_nil, id, if_true, if_false, Bool.not_true, Bool.not_false, Bool.or_false, Bool.false_or, Bool.or_true, Bool.true_or, Bool.and_true, Bool.true_and, Bool.and_false, Bool.false_and, Option.map_some, Option.map_none, decide_true, decide_false, String.reduceEq, reduceIte, Nat.reduceAdd, Int.reduceLT, Int.reduceLE, Nat.reduceLeDiff, Bool.false_eq_true, reduceCtorEq, not_false_eq_true, not_true_eq_false, decide_not]) (by simp only [Qa, Qb, Qc, Qd, Qe, Qf, retS, nxt, asgN, asgT, Qg, Qh, Qi, Qj, Qk, Ql, Qm, Qn, ne_eq, binR, Qo, Qp, subI, subS, noneE, listD, tupD, Qq, Qr, callP, callQ, Qs, Qt, Qu, Qv, callLen, Qw, Qx, Qy, Qz, QA, QB, QC, QD, QE, QF, QG, QH, QI, QJ, QK, QL, QM, QN, QO, QP, QQ, QR, QS, tob, QT, notB, notV, QU, QV, QW, QX, QY, QZ, Q0, cond_true, cond_false, isR, Q1, Q2, Q3, Q4, Q5, isTup, isLis, isStr, isInt, isBoo, updTup, updAll, updName, Q6, Q7, Q8, Q9, Za, Zb, Zc, Zd, Ze, Zf, Zg, sz0, sz1, sz2, sz3, sz4, sz5, Zh, Zi, Zj, List.map_cons, List.map_nil, List.length_cons, List.length_nil, List.length_map, List.any_cons, List.any_nil, id, if_true, if_false, Bool.not_true, Bool.not_false, Bool.or_false, Bool.false_or, Bool.or_true, Bool.true_or, Bool.and_true, Bool.true_and, Bool.and_false, Bool.false_and, Option.map_some, Option.map_none, decide_true, decide_false, String.reduceEq, reduceIte, Nat.reduceAdd, Int.reduceLT, Int.reduceLE, Nat.reduceLeDiff, Bool.false_eq_true, reduceCtorEq, not_false_eq_true, not_true_eq_false, decide_not]) I.lb (by rw [refsFrom_len]; unfold sizeMax; lia)
  have g2 : (setAO G (L + b.length) (refsFrom L b.length ++ [.list []]))[L + b.length + 1 + s.length]? = some (refsFrom (L + b.length + 1) s.length) := by rw [set_other (by lia)]; exact I.ls
  have r2 : ∀ (j : Nat) (row : List Int), (b ++ s)[j]? = some row → (setAO G (L + b.length) (refsFrom L b.length ++ [.list []]))[ad L b.length j]? = some (rowO (row ++ [(j : Int)])) := fun j row h => by
    have hj := (List.getElem?_eq_some_iff.mp h).1
    rw [List.length_append] at hj
    rw [set_other ad_lb, I.ro j row h, if_pos hj]
  generalize setAO G (L + b.length) (refsFrom L b.length ++ [.list []]) = G2 at m1 g2 r2
  have m2 : methQ base .append (fun H => subI (fun H => lkp ρ "_law_found" H) (fun H => some (AV.int 1, H)) H) [(fun H => listD [] H)] G2 = some (.none, setAO G2 (L + b.length + 1 + s.length) (refsFrom (L + b.length + 1) s.length ++ [.list []])) :=
    meth_app (by simp only [lkp_some F.fo, Qa, Qb, Qc, Qd, Qe, Qf, retS, nxt, asgN, asgT, Qg, Qh, Qi, Qj, Qk, Ql, Qm, Qn, ne_eq, binR, Qo, Qp, subI, subS, noneE, listD, tupD, Qq, Qr, callP, callQ, Qs, Qt, Qu, Qv, callLen, Qw, Qx, Qy, Qz, QA, QB, QC, QD, QE, QF, QG, QH, QI, QJ, QK, QL, QM, QN, QO, QP, QQ, QR, QS, tob, QT, notB, notV, QU, QV, QW, QX, QY, QZ, Q0, cond_true, cond_false, isR, Q1, Q2, Q3, Q4, Q5, isTup, isLis, isStr, isInt, isBoo, updTup, updAll, updName, Q6, Q7, Q8, Q9, Za, Zb, Zc, Zd, Ze, Zf, Zg, sz0, sz1, sz2, sz3, sz4, sz5, Zh, Zi, Zj, List.map_cons, List.map_nil, List.length_cons, List.length_nil, List.length_map, List.any_cons, List.any_nil, id, if_true, if_false, Bool.not_true, Bool.not_false, Bool.or_false, Bool.false_or, Bool.or_true, Bool.true_or, Bool.and_true, Bool.true_and, Bool.and_false, Bool.false_and, Option.map_some, Option.map_none, decide_true, decide_false, String.reduceEq, reduceIte, Nat.reduceAdd, Int.reduceLT, Int.reduceLE, Nat.reduceLeDiff, Bool.false_eq_true, reduceCtorEq, not_false_eq_true, not_true_eq_false, decide_not]) (by simp only [Qa, Qb, Qc, Qd, Qe, Qf, retS, nxt, asgN, asgT, Qg, Qh, Qi, Qj, Qk, Ql, Qm, Qn, ne_eq, binR, Qo, Qp, subI, subS, noneE, listD, tupD, Qq, Qr, callP, callQ, Qs, Qt, Qu, Qv, callLen, Qw, Qx, Qy, Qz, QA, QB, QC, QD, QE, QF, QG, QH, QI, QJ, QK, QL, QM, QN, QO, QP, QQ, QR, QS, tob, QT, notB, notV, QU, QV, QW, QX, QY, QZ, Q0, cond_true, cond_false, isR, Q1, Q2, Q3, Q4, Q5, isTup, isLis, isStr, isInt, isBoo, updTup, updAll, updName, Q6, Q7, Q8, Q9, Za, Zb, Zc, Zd, Ze, Zf, Zg, sz0, sz1, sz2, sz3, sz4, sz5, Zh, Zi, Zj, List.map_cons, List.map_nil, List.length_cons, List.length_nil, List.length_map, List.any_cons, List.any_nil, id, if_true, if_false, Bool.not_true, Bool.not_false, Bool.or_false, Bool.false_or, Bool.or_true, Bool.true_or, Bool.and_true, Bool.true_and, Bool.and_false, Bool.false_and, Option.map_some, Option.map_none, decide_true, decide_false, String.reduceEq, reduceIte, Nat.reduceAdd, Int.reduceLT, Int.reduceLE, Nat.reduceLeDiff, Bool.false_eq_true, reduceCtorEq, not_false_eq_true, not_true_eq_false, decide_not]) g2 (by rw [refsFrom_len]; unfold sizeMax; lia)
  have r3 : ∀ (j : Nat) (row : List Int), (b ++ s)[j]? = some row → (setAO G2 (L + b.length + 1 + s.length) (refsFrom (L + b.length + 1) s.length ++ [.list []]))[ad L b.length j]? = some (rowO (row ++ [(j : Int)])) := fun j row h => by
    have hj := (List.getElem?_eq_some_iff.mp h).1
    rw [List.length_append] at hj
    rw [set_other (ad_ls hj)]; exact r2 j row h
  generalize setAO G2 (L + b.length + 1 + s.length) (refsFrom (L + b.length + 1) s.length ++ [.list []]) = G3 at m2 r3
  have p0 : ∀ G, getIdx G (planV b s) (.int 0) = some (.list (b.map iL)) := fun G => Q9 G _ _
  have p1 : ∀ G, getIdx G (planV b s) (.int 1) = some (.list (s.map iL)) := fun G => Za G _ _ _
  have ct : ∀ G, binV .Add (.list (b.map iL)) (.list (s.map iL)) G = some (.list ((b ++ s).map iL)) := fun G => by
    rw [catLL (by simp only [List.length_map]; exact szOf (by lia)), List.map_append]
  have e4 : ∃ ρ4, s_law_right_k14 (callF CC n) base ρ G = s_law_right_k11 (callF CC n) base ρ4 G3 ∧ RE b s ρ4 ∧ ρ4 "_law_rows" = some (.list (rowsR L b s)) ∧ ρ4 "_law_kept" = some (.list ((b ++ s).map iL)) := by
    refine ⟨upd ρ "_law_kept" (.list ((b ++ s).map iL)), ?_, ⟨by simp only [F.e.pl, Qa, Qb, Qc, Qd, Qe, Qf, retS, nxt, asgN, asgT, Qg, Qh, Qi, Qj, Qk, Ql, Qm, Qn, ne_eq, binR, Qo, Qp, subI, subS, noneE, listD, tupD, Qq, Qr, callP, callQ, Qs, Qt, Qu, Qv, callLen, Qw, Qx, Qy, Qz, QA, QB, QC, QD, QE, QF, QG, QH, QI, QJ, QK, QL, QM, QN, QO, QP, QQ, QR, QS, tob, QT, notB, notV, QU, QV, QW, QX, QY, QZ, Q0, cond_true, cond_false, isR, Q1, Q2, Q3, Q4, Q5, isTup, isLis, isStr, isInt, isBoo, updTup, updAll, updName, Q6, Q7, Q8, Q9, Za, Zb, Zc, Zd, Ze, Zf, Zg, sz0, sz1, sz2, sz3, sz4, sz5, Zh, Zi, Zj, List.map_cons, List.map_nil, List.length_cons, List.length_nil, List.length_map, List.any_cons, List.any_nil, id, if_true, if_false, Bool.not_true, Bool.not_false, Bool.or_false, Bool.false_or, Bool.or_true, Bool.true_or, Bool.and_true, Bool.true_and, Bool.and_false, Bool.false_and, Option.map_some, Option.map_none, decide_true, decide_false, String.reduceEq, reduceIte, Nat.reduceAdd, Int.reduceLT, Int.reduceLE, Nat.reduceLeDiff, Bool.false_eq_true, reduceCtorEq, not_false_eq_true, not_true_eq_false, decide_not], by simp only [F.e.gi, Qa, Qb, Qc, Qd, Qe, Qf, retS, nxt, asgN, asgT, Qg, Qh, Qi, Qj, Qk, Ql, Qm, Qn, ne_eq, binR, Qo, Qp, subI, subS, noneE, listD, tupD, Qq, Qr, callP, callQ, Qs, Qt, Qu, Qv, callLen, Qw, Qx, Qy, Qz, QA, QB, QC, QD, QE, QF, QG, QH, QI, QJ, QK, QL, QM, QN, QO, QP, QQ, QR, QS, tob, QT, notB, notV, QU, QV, QW, QX, QY, QZ, Q0, cond_true, cond_false, isR, Q1, Q2, Q3, Q4, Q5, isTup, isLis, isStr, isInt, isBoo, updTup, updAll, updName, Q6, Q7, Q8, Q9, Za, Zb, Zc, Zd, Ze, Zf, Zg, sz0, sz1, sz2, sz3, sz4, sz5, Zh, Zi, Zj, List.map_cons, List.map_nil, List.length_cons, List.length_nil, List.length_map, List.any_cons, List.any_nil, id, if_true, if_false, Bool.not_true, Bool.not_false, Bool.or_false, Bool.false_or, Bool.or_true, Bool.true_or, Bool.and_true, Bool.true_and, Bool.and_false, Bool.false_and, Option.map_some, Option.map_none, decide_true, decide_false, String.reduceEq, reduceIte, Nat.reduceAdd, Int.reduceLT, Int.reduceLE, Nat.reduceLeDiff, Bool.false_eq_true, reduceCtorEq, not_false_eq_true, not_true_eq_false, decide_not]⟩, by simp only [F.ro, Qa, Qb, Qc, Qd, Qe, Qf, retS, nxt, asgN, asgT, Qg, Qh, Qi, Qj, Qk, Ql, Qm, Qn, ne_eq, binR, Qo, Qp, subI, subS, noneE, listD, tupD, Qq, Qr, callP, callQ, Qs, Qt, Qu, Qv, callLen, Qw, Qx, Qy, Qz, QA, QB, QC, QD, QE, QF, QG, QH, QI, QJ, QK, QL, QM, QN, QO, QP, QQ, QR, QS, tob, QT, notB, notV, QU, QV, QW, QX, QY, QZ, Q0, cond_true, cond_false, isR, Q1, Q2, Q3, Q4, Q5, isTup, isLis, isStr, isInt, isBoo, updTup, updAll, updName, Q6, Q7, Q8, Q9, Za, Zb, Zc, Zd, Ze, Zf, Zg, sz0, sz1, sz2, sz3, sz4, sz5, Zh, Zi, Zj, List.map_cons, List.map_nil, List.length_cons, List.length_nil, List.length_map, List.any_cons, List.any_nil, id, if_true, if_false, Bool.not_true, Bool.not_false, Bool.or_false, Bool.false_or, Bool.or_true, Bool.true_or, Bool.and_true, Bool.true_and, Bool.and_false, Bool.false_and, Option.map_some, Option.map_none, decide_true, decide_false, String.reduceEq, reduceIte, Nat.reduceAdd, Int.reduceLT, Int.reduceLE, Nat.reduceLeDiff, Bool.false_eq_true, reduceCtorEq, not_false_eq_true, not_true_eq_false, decide_not], by simp only [Qa, Qb, Qc, Qd, Qe, Qf, retS, nxt, asgN, asgT, Qg, Qh, Qi, Qj, Qk, Ql, Qm, Qn, ne_eq, binR, Qo, Qp, subI, subS, noneE, listD, tupD, Qq, Qr, callP, callQ, Qs, Qt, Qu, Qv, callLen, Qw, Qx, Qy, Qz, QA, QB, QC, QD, QE, QF, QG, QH, QI, QJ, QK, QL, QM, QN, QO, QP, QQ, QR, QS, tob, QT, notB, notV, QU, QV, QW, QX, QY, QZ, Q0, cond_true, cond_false, isR, Q1, Q2, Q3, Q4, Q5, isTup, isLis, isStr, isInt, isBoo, updTup, updAll, updName, Q6, Q7, Q8, Q9, Za, Zb, Zc, Zd, Ze, Zf, Zg, sz0, sz1, sz2, sz3, sz4, sz5, Zh, Zi, Zj, List.map_cons, List.map_nil, List.length_cons, List.length_nil, List.length_map, List.any_cons, List.any_nil, id, if_true, if_false, Bool.not_true, Bool.not_false, Bool.or_false, Bool.false_or, Bool.or_true, Bool.true_or, Bool.and_true, Bool.true_and, Bool.and_false, Bool.false_and, Option.map_some, Option.map_none, decide_true, decide_false, String.reduceEq, reduceIte, Nat.reduceAdd, Int.reduceLT, Int.reduceLE, Nat.reduceLeDiff, Bool.false_eq_true, reduceCtorEq, not_false_eq_true, not_true_eq_false, decide_not]⟩
    simp only [s_law_right_k14, m1, Qg, Qc]
    simp only [s_law_right_k13, m2, Qg, Qc]
    simp only [s_law_right_k12, lkp_some F.e.pl, p0, p1, ct, Qa, Qb, Qc, Qd, Qe, Qf, retS, nxt, asgN, asgT, Qg, Qh, Qi, Qj, Qk, Ql, Qm, Qn, ne_eq, binR, Qo, Qp, subI, subS, noneE, listD, tupD, Qq, Qr, callP, callQ, Qs, Qt, Qu, Qv, callLen, Qw, Qx, Qy, Qz, QA, QB, QC, QD, QE, QF, QG, QH, QI, QJ, QK, QL, QM, QN, QO, QP, QQ, QR, QS, tob, QT, notB, notV, QU, QV, QW, QX, QY, QZ, Q0, cond_true, cond_false, isR, Q1, Q2, Q3, Q4, Q5, isTup, isLis, isStr, isInt, isBoo, updTup, updAll, updName, Q6, Q7, Q8, Q9, Za, Zb, Zc, Zd, Ze, Zf, Zg, sz0, sz1, sz2, sz3, sz4, sz5, Zh, Zi, Zj, List.map_cons, List.map_nil, List.length_cons, List.length_nil, List.length_map, List.any_cons, List.any_nil, id, if_true, if_false, Bool.not_true, Bool.not_false, Bool.or_false, Bool.false_or, Bool.or_true, Bool.true_or, Bool.and_true, Bool.true_and, Bool.and_false, Bool.false_and, Option.map_some, Option.map_none, decide_true, decide_false, String.reduceEq, reduceIte, Nat.reduceAdd, Int.reduceLT, Int.reduceLE, Nat.reduceLeDiff, Bool.false_eq_true, reduceCtorEq, not_false_eq_true, not_true_eq_false, decide_not]
  obtain ⟨ρ4, e4, E4, f1, f2⟩ := e4
  have cp : compR tt0 (s_law_right_c9 (callF CC n) base) "_law_k" ρ4 (s_law_right_i10 (callF CC n) base ρ4) G3 = some ((rangeL 0 ((b.length + s.length : Nat) : Int)).map fun _ => AV.bool true, G3) := by
    refine compR_map (src := .range 0 ((b.length + s.length : Nat) : Int)) (fun _ => AV.bool true) (by simp only [s_law_right_i10, lkp_some f1, rowsR_len, small_len (n := b.length + s.length) (szOf (by lia)), Qa, Qb, Qc, Qd, Qe, Qf, retS, nxt, asgN, asgT, Qg, Qh, Qi, Qj, Qk, Ql, Qm, Qn, ne_eq, binR, Qo, Qp, subI, subS, noneE, listD, tupD, Qq, Qr, callP, callQ, Qs, Qt, Qu, Qv, callLen, Qw, Qx, Qy, Qz, QA, QB, QC, QD, QE, QF, QG, QH, QI, QJ, QK, QL, QM, QN, QO, QP, QQ, QR, QS, tob, QT, notB, notV, QU, QV, QW, QX, QY, QZ, Q0, cond_true, cond_false, isR, Q1, Q2, Q3, Q4, Q5, isTup, isLis, isStr, isInt, isBoo, updTup, updAll, updName, Q6, Q7, Q8, Q9, Za, Zb, Zc, Zd, Ze, Zf, Zg, sz0, sz1, sz2, sz3, sz4, sz5, Zh, Zi, Zj, List.map_cons, List.map_nil, List.length_cons, List.length_nil, List.length_map, List.any_cons, List.any_nil, id, if_true, if_false, Bool.not_true, Bool.not_false, Bool.or_false, Bool.false_or, Bool.or_true, Bool.true_or, Bool.and_true, Bool.true_and, Bool.and_false, Bool.false_and, Option.map_some, Option.map_none, decide_true, decide_false, String.reduceEq, reduceIte, Nat.reduceAdd, Int.reduceLT, Int.reduceLE, Nat.reduceLeDiff, Bool.false_eq_true, reduceCtorEq, not_false_eq_true, not_true_eq_false, decide_not]) rfl (by rw [rangeL_len]; exact szOf (by lia)) fun v m => ?_
    obtain ⟨j, hj, rfl⟩ := rangeL_mem m
    have hj' : j < (b ++ s).length := by rw [List.length_append]; exact hj
    have hr : (b ++ s)[j]? = some (b ++ s)[j] := List.getElem?_eq_getElem hj'
    have hm : (b ++ s)[j].length ≤ 700 := by
      rcases List.mem_append.mp (List.getElem_mem hj') with q | q
      · exact z.br _ q
      · exact z.sr _ q
    generalize (b ++ s)[j] = row at hr hm
    have hg : getIdx G3 (.list (rowsR L b s)) (.int (j : Int)) = some (.ref (ad L b.length j)) := getIdx_nat rfl (rowsR_get hj)
    have hg2 : getIdx G3 (.list ((b ++ s).map iL)) (.int (j : Int)) = some (iL row) := getIdx_nat rfl (by rw [List.getElem?_map, hr]; rfl)
    have hc : binV .Add (iL row) (.list [.int (j : Int)]) G3 = some (iL (row ++ [(j : Int)])) := by
      rw [iL, catLL (by simp only [List.length_map, List.length_cons, List.length_nil]; exact szOf (by lia)), iL, List.map_append]; rfl
    have he : eqV G3 (.ref (ad L b.length j)) (iL (row ++ [(j : Int)])) = some true := eqV_same (v := iL (row ++ [(j : Int)])) (hop_row (n := 3) (r3 j row hr)) (rsv_frozen (noRef_iL _)) (okD_iL (n := 11) _)
    simp only [s_law_right_c9, lkp_some f1, lkp_some f2, hg, hg2, hc, he, Qa, Qb, Qc, Qd, Qe, Qf, retS, nxt, asgN, asgT, Qg, Qh, Qi, Qj, Qk, Ql, Qm, Qn, ne_eq, binR, Qo, Qp, subI, subS, noneE, listD, tupD, Qq, Qr, callP, callQ, Qs, Qt, Qu, Qv, callLen, Qw, Qx, Qy, Qz, QA, QB, QC, QD, QE, QF, QG, QH, QI, QJ, QK, QL, QM, QN, QO, QP, QQ, QR, QS, tob, QT, notB, notV, QU, QV, QW, QX, QY, QZ, Q0, cond_true, cond_false, isR, Q1, Q2, Q3, Q4, Q5, isTup, isLis, isStr, isInt, isBoo, updTup, updAll, updName, Q6, Q7, Q8, Q9, Za, Zb, Zc, Zd, Ze, Zf, Zg, sz0, sz1, sz2, sz3, sz4, sz5, Zh, Zi, Zj, List.map_cons, List.map_nil, List.length_cons, List.length_nil, List.length_map, List.any_cons, List.any_nil, id, if_true, if_false, Bool.not_true, Bool.not_false, Bool.or_false, Bool.false_or, Bool.or_true, Bool.true_or, Bool.and_true, Bool.true_and, Bool.and_false, Bool.false_and, Option.map_some, Option.map_none, decide_true, decide_false, String.reduceEq, reduceIte, Nat.reduceAdd, Int.reduceLT, Int.reduceLE, Nat.reduceLeDiff, Bool.false_eq_true, reduceCtorEq, not_false_eq_true, not_true_eq_false, decide_not]
  refine ⟨ρ4, G3, ?_⟩
  rw [e4]
  simp only [s_law_right_k11, lkp_some E4.pl, lkp_some E4.gi, eq_plan, cp, boolsOf_const, all_const, Qa, Qb, Qc, Qd, Qe, Qf, retS, nxt, asgN, asgT, Qg, Qh, Qi, Qj, Qk, Ql, Qm, Qn, ne_eq, binR, Qo, Qp, subI, subS, noneE, listD, tupD, Qq, Qr, callP, callQ, Qs, Qt, Qu, Qv, callLen, Qw, Qx, Qy, Qz, QA, QB, QC, QD, QE, QF, QG, QH, QI, QJ, QK, QL, QM, QN, QO, QP, QQ, QR, QS, tob, QT, notB, notV, QU, QV, QW, QX, QY, QZ, Q0, cond_true, cond_false, isR, Q1, Q2, Q3, Q4, Q5, isTup, isLis, isStr, isInt, isBoo, updTup, updAll, updName, Q6, Q7, Q8, Q9, Za, Zb, Zc, Zd, Ze, Zf, Zg, sz0, sz1, sz2, sz3, sz4, sz5, Zh, Zi, Zj, List.map_cons, List.map_nil, List.length_cons, List.length_nil, List.length_map, List.any_cons, List.any_nil, id, if_true, if_false, Bool.not_true, Bool.not_false, Bool.or_false, Bool.false_or, Bool.or_true, Bool.true_or, Bool.and_true, Bool.true_and, Bool.and_false, Bool.false_and, Option.map_some, Option.map_none, decide_true, decide_false, String.reduceEq, reduceIte, Nat.reduceAdd, Int.reduceLT, Int.reduceLE, Nat.reduceLeDiff, Bool.false_eq_true, reduceCtorEq, not_false_eq_true, not_true_eq_false, decide_not]
theorem right_good (n base : Nat) {b s : List (List Int)} {ρ : Loc} {G0 : HP} (z : Sz 700 b s) (e : RE b s ρ) (hd : ρ "_law_due" = some (.str (Str.ofString ""))) :
    ∃ ρ' H', s_law_right_k17 (callF CC (n+4)) base (upd ρ "_law_found" (.tup [.ref (G0.length + b.length), .ref (G0.length + b.length + 1 + s.length)])) (tab (tab G0 b) s) = some (.ret (.bool true), ρ', H') := by
  have hz1 := z.lb
  have hz2 := z.ls
  have I0 := RI.zero G0 b s
  generalize tab (tab G0 b) s = T at I0
  generalize G0.length = L at I0
  have al := alike_found n base I0 (szOf (by lia)) (szOf (by lia)) (fun r m => szOf (by have := z.br r m; lia)) (fun r m => szOf (by have := z.sr r m; lia))
  have ct : binV .Add (.ref (L + b.length)) (.ref (L + b.length + 1 + s.length)) T = some (.list (rowsR L b s)) := cat_refs I0.lb I0.ls (by rw [refsFrom_len, refsFrom_len]; exact szOf (by lia))
  have a1 : ∃ ρ2, s_law_right_k17 (callF CC (n+4)) base (upd ρ "_law_found" (.tup [.ref (L + b.length), .ref (L + b.length + 1 + s.length)])) T = s_law_right_k15 (callF CC (n+4)) base ρ2 T ∧ RF L b s ρ2 := by
    refine ⟨upd (upd ρ "_law_found" (.tup [.ref (L + b.length), .ref (L + b.length + 1 + s.length)])) "_law_rows" (.list (rowsR L b s)), ?_, ⟨⟨by simp only [e.pl, Qa, Qb, Qc, Qd, Qe, Qf, retS, nxt, asgN, asgT, Qg, Qh, Qi, Qj, Qk, Ql, Qm, Qn, ne_eq, binR, Qo, Qp, subI, subS, noneE, listD, tupD, Qq, Qr, callP, callQ, Qs, Qt, Qu, Qv, callLen, Qw, Qx, Qy, Qz, QA, QB, QC, QD, QE, QF, QG, QH, QI, QJ, QK, QL, QM, QN, QO, QP, QQ, QR, QS, tob, QT, notB, notV, QU, QV, QW, QX, QY, QZ, Q0, cond_true, cond_false, isR, Q1, Q2, Q3, Q4, Q5, isTup, isLis, isStr, isInt, isBoo, updTup, updAll, updName, Q6, Q7, Q8, Q9, Za, Zb, Zc, Zd, Ze, Zf, Zg, sz0, sz1, sz2, sz3, sz4, sz5, Zh, Zi, Zj, List.map_cons, List.map_nil, List.length_cons, List.length_nil, List.length_map, List.any_cons, List.any_nil, id, if_true, if_false, Bool.not_true, Bool.not_false, Bool.or_false, Bool.false_or, Bool.or_true, Bool.true_or, Bool.and_true, Bool.true_and, Bool.and_false, Bool.false_and, Option.map_some, Option.map_none, decide_true, decide_false, String.reduceEq, reduceIte, Nat.reduceAdd, Int.reduceLT, Int.reduceLE, Nat.reduceLeDiff, Bool.false_eq_true, reduceCtorEq, not_false_eq_true, not_true_eq_false, decide_not], by simp only [e.gi, Qa, Qb, Qc, Qd, Qe, Qf, retS, nxt, asgN, asgT, Qg, Qh, Qi, Qj, Qk, Ql, Qm, Qn, ne_eq, binR, Qo, Qp, subI, subS, noneE, listD, tupD, Qq, Qr, callP, callQ, Qs, Qt, Qu, Qv, callLen, Qw, Qx, Qy, Qz, QA, QB, QC, QD, QE, QF, QG, QH, QI, QJ, QK, QL, QM, QN, QO, QP, QQ, QR, QS, tob, QT, notB, notV, QU, QV, QW, QX, QY, QZ, Q0, cond_true, cond_false, isR, Q1, Q2, Q3, Q4, Q5, isTup, isLis, isStr, isInt, isBoo, updTup, updAll, updName, Q6, Q7, Q8, Q9, Za, Zb, Zc, Zd, Ze, Zf, Zg, sz0, sz1, sz2, sz3, sz4, sz5, Zh, Zi, Zj, List.map_cons, List.map_nil, List.length_cons, List.length_nil, List.length_map, List.any_cons, List.any_nil, id, if_true, if_false, Bool.not_true, Bool.not_false, Bool.or_false, Bool.false_or, Bool.or_true, Bool.true_or, Bool.and_true, Bool.true_and, Bool.and_false, Bool.false_and, Option.map_some, Option.map_none, decide_true, decide_false, String.reduceEq, reduceIte, Nat.reduceAdd, Int.reduceLT, Int.reduceLE, Nat.reduceLeDiff, Bool.false_eq_true, reduceCtorEq, not_false_eq_true, not_true_eq_false, decide_not]⟩, by simp only [Qa, Qb, Qc, Qd, Qe, Qf, retS, nxt, asgN, asgT, Qg, Qh, Qi, Qj, Qk, Ql, Qm, Qn, ne_eq, binR, Qo, Qp, subI, subS, noneE, listD, tupD, Qq, Qr, callP, callQ, Qs, Qt, Qu, Qv, callLen, Qw, Qx, Qy, Qz, QA, QB, QC, QD, QE, QF, QG, QH, QI, QJ, QK, QL, QM, QN, QO, QP, QQ, QR, QS, tob, QT, notB, notV, QU, QV, QW, QX, QY, QZ, Q0, cond_true, cond_false, isR, Q1, Q2, Q3, Q4, Q5, isTup, isLis, isStr, isInt, isBoo, updTup, updAll, updName, Q6, Q7, Q8, Q9, Za, Zb, Zc, Zd, Ze, Zf, Zg, sz0, sz1, sz2, sz3, sz4, sz5, Zh, Zi, Zj, List.map_cons, List.map_nil, List.length_cons, List.length_nil, List.length_map, List.any_cons, List.any_nil, id, if_true, if_false, Bool.not_true, Bool.not_false, Bool.or_false, Bool.false_or, Bool.or_true, Bool.true_or, Bool.and_true, Bool.true_and, Bool.and_false, Bool.false_and, Option.map_some, Option.map_none, decide_true, decide_false, String.reduceEq, reduceIte, Nat.reduceAdd, Int.reduceLT, Int.reduceLE, Nat.reduceLeDiff, Bool.false_eq_true, reduceCtorEq, not_false_eq_true, not_true_eq_false, decide_not], by simp only [Qa, Qb, Qc, Qd, Qe, Qf, retS, nxt, asgN, asgT, Qg, Qh, Qi, Qj, Qk, Ql, Qm, Qn, ne_eq, binR, Qo, Qp, subI, subS, noneE, listD, tupD, Qq, Qr, callP, callQ, Qs, Qt, Qu, Qv, callLen, Qw, Qx, Qy, Qz, QA, QB, QC, QD, QE, QF, QG, QH, QI, QJ, QK, QL, QM, QN, QO, QP, QQ, QR, QS, tob, QT, notB, notV, QU, QV, QW, QX, QY, QZ, Q0, cond_true, cond_false, isR, Q1, Q2, Q3, Q4, Q5, isTup, isLis, isStr, isInt, isBoo, updTup, updAll, updName, Q6, Q7, Q8, Q9, Za, Zb, Zc, Zd, Ze, Zf, Zg, sz0, sz1, sz2, sz3, sz4, sz5, Zh, Zi, Zj, List.map_cons, List.map_nil, List.length_cons, List.length_nil, List.length_map, List.any_cons, List.any_nil, id, if_true, if_false, Bool.not_true, Bool.not_false, Bool.or_false, Bool.false_or, Bool.or_true, Bool.true_or, Bool.and_true, Bool.true_and, Bool.and_false, Bool.false_and, Option.map_some, Option.map_none, decide_true, decide_false, String.reduceEq, reduceIte, Nat.reduceAdd, Int.reduceLT, Int.reduceLE, Nat.reduceLeDiff, Bool.false_eq_true, reduceCtorEq, not_false_eq_true, not_true_eq_false, decide_not]⟩⟩
    simp only [s_law_right_k17, s_law_right_k16, lkp_some e.pl, lkp_some e.gi, lkp_some hd, eq_plan, al, ct, Qa, Qb, Qc, Qd, Qe, Qf, retS, nxt, asgN, asgT, Qg, Qh, Qi, Qj, Qk, Ql, Qm, Qn, ne_eq, binR, Qo, Qp, subI, subS, noneE, listD, tupD, Qq, Qr, callP, callQ, Qs, Qt, Qu, Qv, callLen, Qw, Qx, Qy, Qz, QA, QB, QC, QD, QE, QF, QG, QH, QI, QJ, QK, QL, QM, QN, QO, QP, QQ, QR, QS, tob, QT, notB, notV, QU, QV, QW, QX, QY, QZ, Q0, cond_true, cond_false, isR, Q1, Q2, Q3, Q4, Q5, isTup, isLis, isStr, isInt, isBoo, updTup, updAll, updName, Q6, Q7, Q8, Q9, Za, Zb, Zc, Zd, Ze, Zf, Zg, sz0, sz1, sz2, sz3, sz4, sz5, Zh, Zi, Zj, List.map_cons, List.map_nil, List.length_cons, List.length_nil, List.length_map, List.any_cons, List.any_nil, id, if_true, if_false, Bool.not_true, Bool.not_false, Bool.or_false, Bool.false_or, Bool.or_true, Bool.true_or, Bool.and_true, Bool.true_and, Bool.and_false, Bool.false_and, Option.map_some, Option.map_none, decide_true, decide_false, String.reduceEq, reduceIte, Nat.reduceAdd, Int.reduceLT, Int.reduceLE, Nat.reduceLeDiff, Bool.false_eq_true, reduceCtorEq, not_false_eq_true, not_true_eq_false, decide_not]
  obtain ⟨ρ2, a1, F⟩ := a1
  obtain ⟨ρ3, G3, l1, F3, I3⟩ := rows_loop (n+4) base z F I0
  obtain ⟨ρ4, G4, l2⟩ := right_end (n+4) base z F3 I3
  exact ⟨ρ4, G4, by rw [a1, s_law_right_k15, l1, Qc, l2]⟩
theorem right_eval (n base : Nat) {b s : List (List Int)} (H : HP) (z : Sz 700 b s) : ∃ H', callF CC (n+5) base "_law_right" [planV b s] H = some (.bool true, H') := by
  by_cases h1 : 200 < b.length
  · obtain ⟨ρ, e, hd, hc⟩ := right_pre (n+4) base z (wrong_many (starts := s) (n+3) base H h1)
    obtain ⟨c1, c2⟩ := checked_many (starts := s) (n+3) base H h1
    exact ⟨H, by rw [hc, right_bad (n+4) base e hd (by kernel_rfl) c1 c2 (kind_37 (n+3) base H)]; rfl⟩
  by_cases h2 : s.length < 1 ∨ 12 < s.length
  · obtain ⟨ρ, e, hd, hc⟩ := right_pre (n+4) base z (wrong_crew (n+3) base H h1 h2)
    obtain ⟨c1, c2⟩ := checked_crew (n+3) base H h1 h2
    exact ⟨H, by rw [hc, right_bad (n+4) base e hd (by kernel_rfl) c1 c2 (kind_49 (n+3) base H)]; rfl⟩
  have w := wrong_eval (n+3) base H h1 h2 z.tot
  have k := fun G => checked_eval (n+2) base G h1 h2 z.tot
  cases hq : scan (row1 (b.length : Int)) (allR b s) [] with
  | inl er =>
    rw [hq] at w
    obtain ⟨H1, w⟩ := w
    have k := k H1
    rw [hq] at k
    obtain ⟨c1, H2, c2⟩ := k
    obtain ⟨ρ, e, hd, hc⟩ := right_pre (n+4) base z w
    have kd : callF CC (n+4) base (qn "_law_kind") [.obj er.adr] H2 = some (.str (Str.ofString er.tag), H2) := by
      cases er
      · exact kind_61 (n+3) base H2
      · exact kind_73 (n+3) base H2
      · exact kind_85 (n+3) base H2
    exact ⟨H2, by rw [hc, right_bad (n+4) base e hd (by cases er <;> kernel_rfl) c1 c2 kd]; rfl⟩
  | inr sn =>
    rw [hq] at w
    have k := k (H ++ [rowO sn])
    rw [hq] at k
    obtain ⟨ρ, e, hd, hc⟩ := right_pre (n+4) base z w
    have hl : (H ++ [rowO sn]).length + 1 = ((H ++ [rowO sn]) ++ [dS sn]).length := by simp
    rw [hl] at k
    obtain ⟨ρ', H', g⟩ := right_good n base (G0 := (H ++ [rowO sn]) ++ [dS sn]) z e hd
    refine ⟨H', ?_⟩
    have k18 : s_law_right_k18 (callF CC (n+4)) base ρ (H ++ [rowO sn]) = s_law_right_k17 (callF CC (n+4)) base (upd ρ "_law_found" (.tup [.ref (((H ++ [rowO sn]) ++ [dS sn]).length + b.length), .ref (((H ++ [rowO sn]) ++ [dS sn]).length + b.length + 1 + s.length)])) (tab (tab ((H ++ [rowO sn]) ++ [dS sn]) b) s) := by
      simp only [s_law_right_k18, lkp_some e.gi, k, tryR_ok, Qa, Qb, Qc, Qd, Qe, Qf, retS, nxt, asgN, asgT, Qg, Qh, Qi, Qj, Qk, Ql, Qm, Qn, ne_eq, binR, Qo, Qp, subI, subS, noneE, listD, tupD, Qq, Qr, callP, callQ, Qs, Qt, Qu, Qv, callLen, Qw, Qx, Qy, Qz, QA, QB, QC, QD, QE, QF, QG, QH, QI, QJ, QK, QL, QM, QN, QO, QP, QQ, QR, QS, tob, QT, notB, notV, QU, QV, QW, QX, QY, QZ, Q0, cond_true, cond_false, isR, Q1, Q2, Q3, Q4, Q5, isTup, isLis, isStr, isInt, isBoo, updTup, updAll, updName, Q6, Q7, Q8, Q9, Za, Zb, Zc, Zd, Ze, Zf, Zg, sz0, sz1, sz2, sz3, sz4, sz5, Zh, Zi, Zj, List.map_cons, List.map_nil, List.length_cons, List.length_nil, List.length_map, List.any_cons, List.any_nil, id, if_true, if_false, Bool.not_true, Bool.not_false, Bool.or_false, Bool.false_or, Bool.or_true, Bool.true_or, Bool.and_true, Bool.true_and, Bool.and_false, Bool.false_and, Option.map_some, Option.map_none, decide_true, decide_false, String.reduceEq, reduceIte, Nat.reduceAdd, Int.reduceLT, Int.reduceLE, Nat.reduceLeDiff, Bool.false_eq_true, reduceCtorEq, not_false_eq_true, not_true_eq_false, decide_not]
    rw [hc, k18, g]
    rfl
/-! ### changes -/
theorem sl_to (xs : List AV) (j : Nat) : sliceL xs none (some (j : Int)) = xs.take j := by
  have h : clamp xs.length (j : Int) = min j xs.length := by
    unfold clamp; rw [if_neg (by lia), Int.toNat_natCast]
  show (xs.drop 0).take (clamp xs.length (j : Int) - 0) = _
  rw [h, List.drop_zero, Nat.sub_zero, ← List.take_eq_take_min]
theorem sl_from {xs : List AV} {j : Nat} (hj : j ≤ xs.length) : sliceL xs (some (j : Int)) none = xs.drop j := by
  have h : clamp xs.length (j : Int) = j := by
    unfold clamp; rw [if_neg (by lia), Int.toNat_natCast, Nat.min_eq_left hj]
  show (xs.drop (clamp xs.length (j : Int))).take (xs.length - clamp xs.length (j : Int)) = _
  rw [h, List.take_of_length_le (Nat.le_of_eq List.length_drop)]
theorem asO_none : asOptInt .none = some none := rfl
theorem asO_nat {j : Nat} (h : j ≤ sizeMax) : asOptInt (.int (j : Int)) = some (some (j : Int)) := by
  show (if small (j : Int) = true then _ else _) = _
  rw [if_pos (small_len h)]
theorem getSl_list (H : HP) (xs : List AV) (lo hi : Option Int) : getSl H (.list xs) lo hi = some (.list (sliceL xs lo hi)) := rfl
theorem eq_nil (H : HP) (r : List Int) (rs : List (List Int)) : eqV H (.list ((r :: rs).map iL)) (.list []) = some false := by
  unfold eqV
  rw [show fz H (.list ((r :: rs).map iL)) = some (.list ((r :: rs).map iL)) from rsv_frozen (noRef_rows (r :: rs)), show fz H (.list []) = some (.list []) from rfl]
  show (if (okD dMax (.list ((r :: rs).map iL)) && okD dMax (.list [])) = true then _ else none) = _
  rw [show okD dMax (.list ((r :: rs).map iL)) = true from okD_rows (n := 10) _]; rfl
theorem put_k2 {n base j : Nat} {jj : Int} {rows : List (List Int)} {row' : List Int} {H : HP} {ρ : Loc} (q1 : ρ "_law_lists" = some (.list (rows.map iL))) (q2 : ρ "_law_at" = some (.int jj)) (q3 : ρ "_law_row" = some (iL row'))
    (s3 : getSl H (.list (rows.map iL)) none (some jj) = some (.list ((rows.take j).map iL))) (s4 : getSl H (.list (rows.map iL)) (some (jj + 1)) none = some (.list ((rows.drop (j + 1)).map iL)))
    (a1 : asOptInt (.int jj) = some (some jj)) (a2 : asOptInt (.int (jj + 1)) = some (some (jj + 1)))
    (c3 : binV .Add (.list ((rows.take j).map iL)) (.list [iL row']) H = some (.list ((rows.take j ++ [row']).map iL))) (c4 : binV .Add (.list ((rows.take j ++ [row']).map iL)) (.list ((rows.drop (j + 1)).map iL)) H = some (.list ((rows.take j ++ [row'] ++ rows.drop (j + 1)).map iL))) :
    s_law_put_in_k2 (callF CC n) base ρ H = some (.ret (.list ((rows.take j ++ [row'] ++ rows.drop (j + 1)).map iL)), ρ, H) := by
  simp only [s_law_put_in_k2, lkp_some q1, lkp_some q2, lkp_some q3, s3, s4, a1, a2, asO_none, c3, c4, Qa, Qb, Qc, Qd, Qe, Qf, retS, nxt, asgN, asgT, Qg, Qh, Qi, Qj, Qk, Ql, Qm, Qn, ne_eq, binR, Qo, Qp, subI, subS, noneE, listD, tupD, Qq, Qr, callP, callQ, Qs, Qt, Qu, Qv, callLen, Qw, Qx, Qy, Qz, QA, QB, QC, QD, QE, QF, QG, QH, QI, QJ, QK, QL, QM, QN, QO, QP, QQ, QR, QS, tob, QT, notB, notV, QU, QV, QW, QX, QY, QZ, Q0, cond_true, cond_false, isR, Q1, Q2, Q3, Q4, Q5, isTup, isLis, isStr, isInt, isBoo, updTup, updAll, updName, Q6, Q7, Q8, Q9, Za, Zb, Zc, Zd, Ze, Zf, Zg, sz0, sz1, sz2, sz3, sz4, sz5, Zh, Zi, Zj, List.map_cons, List.map_nil, List.length_cons, List.length_nil, List.length_map, List.any_cons, List.any_nil, id, if_true, if_false, Bool.not_true, Bool.not_false, Bool.or_false, Bool.false_or, Bool.or_true, Bool.true_or, Bool.and_true, Bool.true_and, Bool.and_false, Bool.false_and, Option.map_some, Option.map_none, decide_true, decide_false, String.reduceEq, reduceIte, Nat.reduceAdd, Int.reduceLT, Int.reduceLE, Nat.reduceLeDiff, Bool.false_eq_true, reduceCtorEq, not_false_eq_true, not_true_eq_false, decide_not]
theorem put_in_eval (n base : Nat) {rows : List (List Int)} {m : Nat} (cell task : Int) (H : HP) (hm : m ≤ 700) (h1 : rows.length ≤ m) (h2 : ∀ r ∈ rows, r.length ≤ m) :
    ∃ rows' : List (List Int), callF CC (n+1) base "_law_put_in" [.list (rows.map iL), .int cell, .int task] H = some (.list (rows'.map iL), H) ∧ rows'.length ≤ m + 1 ∧ ∀ r ∈ rows', r.length ≤ m + 1 := by
  rw [g_law_put_in]
  match rows, h1, h2 with
  | [], h1, h2 =>
    refine ⟨[], ?_, by simp, by simp⟩
    have e : eqV H (.list []) (.list []) = some true := rfl
    simp only [s_law_put_in, s_law_put_in_body, s_law_put_in_k1, e, Qa, Qb, Qc, Qd, Qe, Qf, retS, nxt, asgN, asgT, Qg, Qh, Qi, Qj, Qk, Ql, Qm, Qn, ne_eq, binR, Qo, Qp, subI, subS, noneE, listD, tupD, Qq, Qr, callP, callQ, Qs, Qt, Qu, Qv, callLen, Qw, Qx, Qy, Qz, QA, QB, QC, QD, QE, QF, QG, QH, QI, QJ, QK, QL, QM, QN, QO, QP, QQ, QR, QS, tob, QT, notB, notV, QU, QV, QW, QX, QY, QZ, Q0, cond_true, cond_false, isR, Q1, Q2, Q3, Q4, Q5, isTup, isLis, isStr, isInt, isBoo, updTup, updAll, updName, Q6, Q7, Q8, Q9, Za, Zb, Zc, Zd, Ze, Zf, Zg, sz0, sz1, sz2, sz3, sz4, sz5, Zh, Zi, Zj, List.map_cons, List.map_nil, List.length_cons, List.length_nil, List.length_map, List.any_cons, List.any_nil, id, if_true, if_false, Bool.not_true, Bool.not_false, Bool.or_false, Bool.false_or, Bool.or_true, Bool.true_or, Bool.and_true, Bool.true_and, Bool.and_false, Bool.false_and, Option.map_some, Option.map_none, decide_true, decide_false, String.reduceEq, reduceIte, Nat.reduceAdd, Int.reduceLT, Int.reduceLE, Nat.reduceLeDiff, Bool.false_eq_true, reduceCtorEq, not_false_eq_true, not_true_eq_false, decide_not]
  | r0 :: rs, h1, h2 =>
    have en := eq_nil H r0 rs
    have hpos : 0 < (r0 :: rs).length := by simp
    generalize r0 :: rs = rows at en hpos h1 h2
    obtain ⟨j, hj⟩ := Int.eq_ofNat_of_zero_le (Int.emod_nonneg cell (by lia : (rows.length : Int) ≠ 0))
    have hjl := Int.emod_lt_of_pos cell (by lia : 0 < (rows.length : Int))
    have hjn : j < rows.length := by lia
    have md : ∀ G, binV .Mod (.int cell) (.int (rows.length : Int)) G = some (.int (j : Int)) := fun G => by rw [bin_mod (by lia), hj]
    have hr : rows[j]? = some rows[j] := List.getElem?_eq_getElem hjn
    have hrm := h2 _ (List.getElem_mem hjn)
    generalize rows[j] = row at hr hrm
    have g1 : ∀ G, getIdx G (.list (rows.map iL)) (.int (j : Int)) = some (iL row) := fun G => getIdx_nat rfl (by rw [List.getElem?_map, hr]; rfl)
    have lr : ∀ G, itemsOf G (iL row) = some (row.map AV.int) := fun G => rfl
    obtain ⟨p, hp⟩ := Int.eq_ofNat_of_zero_le (Int.emod_nonneg (cell / 211) (by lia : (row.length : Int) + 1 ≠ 0))
    have hpl := Int.emod_lt_of_pos (cell / 211) (by lia : 0 < (row.length : Int) + 1)
    have hpn : p ≤ row.length := by lia
    have md2 : ∀ G, binV .Mod (.int (cell / 211)) (.int ((row.length : Int) + 1)) G = some (.int (p : Int)) := fun G => by rw [bin_mod (by lia), hp]
    have s1 : ∀ G, getSl G (iL row) none (some (p : Int)) = some (iL (row.take p)) := fun G => by rw [iL, getSl_list, sl_to, ← List.map_take]; rfl
    have s2 : ∀ G, getSl G (iL row) (some (p : Int)) none = some (iL (row.drop p)) := fun G => by rw [iL, getSl_list, sl_from (by rw [List.length_map]; exact hpn), ← List.map_drop]; rfl
    have s3 : ∀ G, getSl G (.list (rows.map iL)) none (some (j : Int)) = some (.list ((rows.take j).map iL)) := fun G => by rw [getSl_list, sl_to, ← List.map_take]
    have hj1 : (j : Int) + 1 = ((j + 1 : Nat) : Int) := by lia
    have s4 : ∀ G, getSl G (.list (rows.map iL)) (some ((j : Int) + 1)) none = some (.list ((rows.drop (j + 1)).map iL)) := fun G => by
      have := sl_from (xs := rows.map iL) (j := j + 1) (by rw [List.length_map]; lia)
      rw [hj1, getSl_list, this, List.map_drop]
    have a1 := asO_nat (j := j) (szOf (by lia))
    have a2 : asOptInt (.int ((j : Int) + 1)) = some (some ((j : Int) + 1)) := by rw [hj1]; exact asO_nat (j := j + 1) (szOf (by lia))
    have a3 := asO_nat (j := p) (szOf (by lia))
    have t1 : (row.take p).length ≤ 700 := by rw [List.length_take]; lia
    have t2 : (row.drop p).length ≤ 700 := by rw [List.length_drop]; lia
    have t3 : (rows.take j).length ≤ 700 := by rw [List.length_take]; lia
    have t4 : (rows.drop (j + 1)).length ≤ 700 := by rw [List.length_drop]; lia
    have c1 : ∀ G, binV .Add (iL (row.take p)) (.list [.int task]) G = some (iL (row.take p ++ [task])) := fun G => by
      rw [iL, catLL (by simp only [List.length_map, List.length_cons, List.length_nil]; exact szOf (by lia)), iL, List.map_append]; rfl
    have c2 : ∀ G, binV .Add (iL (row.take p ++ [task])) (iL (row.drop p)) G = some (iL (row.take p ++ [task] ++ row.drop p)) := fun G => by
      rw [iL, iL, catLL (by simp only [List.length_map, List.length_append, List.length_cons, List.length_nil]; exact szOf (by lia)), iL, List.map_append (l₁ := row.take p ++ [task])]
    have c3 : ∀ G, binV .Add (.list ((rows.take j).map iL)) (.list [iL (row.take p ++ [task] ++ row.drop p)]) G = some (.list ((rows.take j ++ [row.take p ++ [task] ++ row.drop p]).map iL)) := fun G => by
      rw [catLL (by simp only [List.length_map, List.length_cons, List.length_nil]; exact szOf (by lia)), List.map_append]; rfl
    have c4 : ∀ G, binV .Add (.list ((rows.take j ++ [row.take p ++ [task] ++ row.drop p]).map iL)) (.list ((rows.drop (j + 1)).map iL)) G = some (.list ((rows.take j ++ [row.take p ++ [task] ++ row.drop p] ++ rows.drop (j + 1)).map iL)) := fun G => by
      rw [catLL (by simp only [List.length_map, List.length_append, List.length_cons, List.length_nil]; exact szOf (by lia)), List.map_append (l₁ := rows.take j ++ _)]
    have hrow : (row.take p ++ [task] ++ row.drop p).length ≤ m + 1 := by
      simp only [List.length_append, List.length_take, List.length_drop, List.length_cons, List.length_nil]; lia
    refine ⟨rows.take j ++ [row.take p ++ [task] ++ row.drop p] ++ rows.drop (j + 1), ?_, ?_, ?_⟩
    · generalize row.take p ++ [task] ++ row.drop p = row' at c2 c3 c4
      simp only [s_law_put_in, s_law_put_in_body, s_law_put_in_k6, s_law_put_in_k5, en, md, md2, g1, lr, bin_div, Qa, Qb, Qc, Qd, Qe, Qf, retS, nxt, asgN, asgT, Qg, Qh, Qi, Qj, Qk, Ql, Qm, Qn, ne_eq, binR, Qo, Qp, subI, subS, noneE, listD, tupD, Qq, Qr, callP, callQ, Qs, Qt, Qu, Qv, callLen, Qw, Qx, Qy, Qz, QA, QB, QC, QD, QE, QF, QG, QH, QI, QJ, QK, QL, QM, QN, QO, QP, QQ, QR, QS, tob, QT, notB, notV, QU, QV, QW, QX, QY, QZ, Q0, cond_true, cond_false, isR, Q1, Q2, Q3, Q4, Q5, isTup, isLis, isStr, isInt, isBoo, updTup, updAll, updName, Q6, Q7, Q8, Q9, Za, Zb, Zc, Zd, Ze, Zf, Zg, sz0, sz1, sz2, sz3, sz4, sz5, Zh, Zi, Zj, List.map_cons, List.map_nil, List.length_cons, List.length_nil, List.length_map, List.any_cons, List.any_nil, id, if_true, if_false, Bool.not_true, Bool.not_false, Bool.or_false, Bool.false_or, Bool.or_true, Bool.true_or, Bool.and_true, Bool.true_and, Bool.and_false, Bool.false_and, Option.map_some, Option.map_none, decide_true, decide_false, String.reduceEq, reduceIte, Nat.reduceAdd, Int.reduceLT, Int.reduceLE, Nat.reduceLeDiff, Bool.false_eq_true, reduceCtorEq, not_false_eq_true, not_true_eq_false, decide_not]
      simp only [s_law_put_in_k4, s_law_put_in_k3, g1, s1, s2, a3, asO_none, c1, c2, Qa, Qb, Qc, Qd, Qe, Qf, retS, nxt, asgN, asgT, Qg, Qh, Qi, Qj, Qk, Ql, Qm, Qn, ne_eq, binR, Qo, Qp, subI, subS, noneE, listD, tupD, Qq, Qr, callP, callQ, Qs, Qt, Qu, Qv, callLen, Qw, Qx, Qy, Qz, QA, QB, QC, QD, QE, QF, QG, QH, QI, QJ, QK, QL, QM, QN, QO, QP, QQ, QR, QS, tob, QT, notB, notV, QU, QV, QW, QX, QY, QZ, Q0, cond_true, cond_false, isR, Q1, Q2, Q3, Q4, Q5, isTup, isLis, isStr, isInt, isBoo, updTup, updAll, updName, Q6, Q7, Q8, Q9, Za, Zb, Zc, Zd, Ze, Zf, Zg, sz0, sz1, sz2, sz3, sz4, sz5, Zh, Zi, Zj, List.map_cons, List.map_nil, List.length_cons, List.length_nil, List.length_map, List.any_cons, List.any_nil, id, if_true, if_false, Bool.not_true, Bool.not_false, Bool.or_false, Bool.false_or, Bool.or_true, Bool.true_or, Bool.and_true, Bool.true_and, Bool.and_false, Bool.false_and, Option.map_some, Option.map_none, decide_true, decide_false, String.reduceEq, reduceIte, Nat.reduceAdd, Int.reduceLT, Int.reduceLE, Nat.reduceLeDiff, Bool.false_eq_true, reduceCtorEq, not_false_eq_true, not_true_eq_false, decide_not]
      have k2 := fun ρ q1 q2 q3 => put_k2 (n := n) (base := base) (H := H) (ρ := ρ) (row' := row') q1 q2 q3 (s3 H) (s4 H) a1 a2 (c3 H) (c4 H)
      rw [k2 _ (by simp only [Qa, Qb, Qc, Qd, Qe, Qf, retS, nxt, asgN, asgT, Qg, Qh, Qi, Qj, Qk, Ql, Qm, Qn, ne_eq, binR, Qo, Qp, subI, subS, noneE, listD, tupD, Qq, Qr, callP, callQ, Qs, Qt, Qu, Qv, callLen, Qw, Qx, Qy, Qz, QA, QB, QC, QD, QE, QF, QG, QH, QI, QJ, QK, QL, QM, QN, QO, QP, QQ, QR, QS, tob, QT, notB, notV, QU, QV, QW, QX, QY, QZ, Q0, cond_true, cond_false, isR, Q1, Q2, Q3, Q4, Q5, isTup, isLis, isStr, isInt, isBoo, updTup, updAll, updName, Q6, Q7, Q8, Q9, Za, Zb, Zc, Zd, Ze, Zf, Zg, sz0, sz1, sz2, sz3, sz4, sz5, Zh, Zi, Zj, List.map_cons, List.map_nil, List.length_cons, List.length_nil, List.length_map, List.any_cons, List.any_nil, id, if_true, if_false, Bool.not_true, Bool.not_false, Bool.or_false, Bool.false_or, Bool.or_true, Bool.true_or, Bool.and_true, Bool.true_and, Bool.and_false, Bool.false_and, Option.map_some, Option.map_none, decide_true, decide_false, String.reduceEq, reduceIte, Nat.reduceAdd, Int.reduceLT, Int.reduceLE, Nat.reduceLeDiff, Bool.false_eq_true, reduceCtorEq, not_false_eq_true, not_true_eq_false, decide_not]) (by simp only [Qa, Qb, Qc, Qd, Qe, Qf, retS, nxt, asgN, asgT, Qg, Qh, Qi, Qj, Qk, Ql, Qm, Qn, ne_eq, binR, Qo, Qp, subI, subS, noneE, listD, tupD, Qq, Qr, callP, callQ, Qs, Qt, Qu, Qv, callLen, Qw, Qx, Qy, Qz, QA, QB, QC, QD, QE, QF, QG, QH, QI, QJ, QK, QL, QM, QN, QO, QP, QQ, QR, QS, tob, QT, notB, notV, QU, QV, QW, QX, QY, QZ, Q0, cond_true, cond_false, isR, Q1, Q2, Q3, Q4, Q5, isTup, isLis, isStr, isInt, isBoo, updTup, updAll, updName, Q6, Q7, Q8, Q9, Za, Zb, Zc, Zd, Ze, Zf, Zg, sz0, sz1, sz2, sz3, sz4, sz5, Zh, Zi, Zj, List.map_cons, List.map_nil, List.length_cons, List.length_nil, List.length_map, List.any_cons, List.any_nil, id, if_true, if_false, Bool.not_true, Bool.not_false, Bool.or_false, Bool.false_or, Bool.or_true, Bool.true_or, Bool.and_true, Bool.true_and, Bool.and_false, Bool.false_and, Option.map_some, Option.map_none, decide_true, decide_false, String.reduceEq, reduceIte, Nat.reduceAdd, Int.reduceLT, Int.reduceLE, Nat.reduceLeDiff, Bool.false_eq_true, reduceCtorEq, not_false_eq_true, not_true_eq_false, decide_not]) (by simp only [Qa, Qb, Qc, Qd, Qe, Qf, retS, nxt, asgN, asgT, Qg, Qh, Qi, Qj, Qk, Ql, Qm, Qn, ne_eq, binR, Qo, Qp, subI, subS, noneE, listD, tupD, Qq, Qr, callP, callQ, Qs, Qt, Qu, Qv, callLen, Qw, Qx, Qy, Qz, QA, QB, QC, QD, QE, QF, QG, QH, QI, QJ, QK, QL, QM, QN, QO, QP, QQ, QR, QS, tob, QT, notB, notV, QU, QV, QW, QX, QY, QZ, Q0, cond_true, cond_false, isR, Q1, Q2, Q3, Q4, Q5, isTup, isLis, isStr, isInt, isBoo, updTup, updAll, updName, Q6, Q7, Q8, Q9, Za, Zb, Zc, Zd, Ze, Zf, Zg, sz0, sz1, sz2, sz3, sz4, sz5, Zh, Zi, Zj, List.map_cons, List.map_nil, List.length_cons, List.length_nil, List.length_map, List.any_cons, List.any_nil, id, if_true, if_false, Bool.not_true, Bool.not_false, Bool.or_false, Bool.false_or, Bool.or_true, Bool.true_or, Bool.and_true, Bool.true_and, Bool.and_false, Bool.false_and, Option.map_some, Option.map_none, decide_true, decide_false, String.reduceEq, reduceIte, Nat.reduceAdd, Int.reduceLT, Int.reduceLE, Nat.reduceLeDiff, Bool.false_eq_true, reduceCtorEq, not_false_eq_true, not_true_eq_false, decide_not])]
      rfl
    · simp only [List.length_append, List.length_take, List.length_drop, List.length_cons, List.length_nil]; lia
    · intro r hmem
      rcases List.mem_append.mp hmem with q | q
      · rcases List.mem_append.mp q with q | q
        · have := h2 r (List.mem_of_mem_take q); lia
        · rw [List.mem_singleton.mp q]; exact hrow
      · have := h2 r (List.mem_of_mem_drop q); lia
noncomputable def repZ (s : List (List Int)) : Nat → List (List Int)
  | 0 => []
  | n + 1 => s ++ repZ s n
theorem repL_map (s : List (List Int)) : ∀ n : Nat, repL (s.map iL) n = (repZ s n).map iL
  | 0 => rfl
  | n + 1 => by rw [repL, repL_map s n, repZ, List.map_append]
theorem repZ_mem {s : List (List Int)} {r : List Int} : ∀ {n : Nat}, r ∈ repZ s n → r ∈ s
  | n + 1, h => (List.mem_append.mp h).elim id repZ_mem
theorem mul_list {xs : List AV} {H : HP} (h : xs.length * 13 ≤ sizeMax) : binV .Mult (.list xs) (.int 13) H = some (.list (repL xs 13)) := by
  show (if (small 13 && decide (xs.length * (13 : Int).toNat ≤ sizeMax)) = true then _ else none) = _
  rw [show (13 : Int).toNat = 13 from rfl, decide_eq_true h, show small 13 = true from by decide]; rfl
theorem get_int {H : HP} {xs : List Int} {i : Int} (h0 : 0 ≤ i) (h1 : i < (xs.length : Int)) : ∃ o : Int, getIdx H (.list (xs.map AV.int)) (.int i) = some (.int o) := by
  rw [getIdx_of (xs := xs.map AV.int) rfl h0 (by rw [List.length_map]; exact h1), List.getElem?_map, List.getElem?_eq_getElem (by lia : i.toNat < xs.length)]
  exact ⟨_, rfl⟩
structure HE (b s : List (List Int)) (sm way rest : Int) (ρ : Loc) : Prop where
  br : ρ "_law_brood" = some (.list (b.map iL))
  st : ρ "_law_starts" = some (.list (s.map iL))
  so : ρ "_law_some" = some (.int sm)
  si : ρ "_law_size" = some (.int (b.length : Int))
  wa : ρ "_law_way" = some (.int way)
  re : ρ "_law_rest" = some (.int rest)
theorem sz7 : (7 ≤ sizeMax) = True := by simp [sizeMax]
theorem neg_one (G : HP) : negV (some (AV.int 1, G)) = some (AV.int (-1), G) := rfl
theorem pow_12 (G : HP) : binV .Pow (.int 10) (.int 12) G = some (.int 1000000000000) := rfl
section
variable {b s : List (List Int)} {sm way rest : Int} {ρ : Loc} {m : Nat}
theorem odd_way (n base : Nat) (H : HP) (hm : m ≤ 499) (z : Sz m b s) (e : HE b s sm way rest ρ) : ∃ b' s' ρ', s_law_changed_k5 (callF CC (n+1)) base ρ H = some (.ret (planV b' s'), ρ', H) ∧ Sz (m + 201) b' s' := by
  have md : ∀ G, binV .Mod (.int rest) (.int ((b.length : Int) + 1)) G = some (.int (rest % ((b.length : Int) + 1))) := fun G => bin_mod (by lia)
  obtain ⟨o, ho⟩ := get_int (H := H) (xs := [-1, (b.length : Int), (b.length : Int) + 1 + rest % 999, -1 - rest % 99, 1000000000000, 0, rest % ((b.length : Int) + 1)]) (i := rest / 50 % 7) (by lia) (by simp only [List.length_cons, List.length_nil]; lia)
  simp only [List.map_cons, List.map_nil] at ho
  have e3 : s_law_changed_k5 (callF CC (n+1)) base ρ H = s_law_changed_k3 (callF CC (n+1)) base (upd (upd ρ "_law_odd" (.list [.int (-1), .int (b.length : Int), .int ((b.length : Int) + 1 + rest % 999), .int (-1 - rest % 99), .int 1000000000000, .int 0, .int (rest % ((b.length : Int) + 1))])) "_law_odd" (.int o)) H := by
    simp only [s_law_changed_k5, s_law_changed_k4, lkp_some e.si, lkp_some e.re, neg_one, pow_12, md, ho, sz7, bin_mod, bin_div, Qa, Qb, Qc, Qd, Qe, Qf, retS, nxt, asgN, asgT, Qg, Qh, Qi, Qj, Qk, Ql, Qm, Qn, ne_eq, binR, Qo, Qp, subI, subS, noneE, listD, tupD, Qq, Qr, callP, callQ, Qs, Qt, Qu, Qv, callLen, Qw, Qx, Qy, Qz, QA, QB, QC, QD, QE, QF, QG, QH, QI, QJ, QK, QL, QM, QN, QO, QP, QQ, QR, QS, tob, QT, notB, notV, QU, QV, QW, QX, QY, QZ, Q0, cond_true, cond_false, isR, Q1, Q2, Q3, Q4, Q5, isTup, isLis, isStr, isInt, isBoo, updTup, updAll, updName, Q6, Q7, Q8, Q9, Za, Zb, Zc, Zd, Ze, Zf, Zg, sz0, sz1, sz2, sz3, sz4, sz5, Zh, Zi, Zj, List.map_cons, List.map_nil, List.length_cons, List.length_nil, List.length_map, List.any_cons, List.any_nil, id, if_true, if_false, Bool.not_true, Bool.not_false, Bool.or_false, Bool.false_or, Bool.or_true, Bool.true_or, Bool.and_true, Bool.true_and, Bool.and_false, Bool.false_and, Option.map_some, Option.map_none, decide_true, decide_false, String.reduceEq, reduceIte, Nat.reduceAdd, Int.reduceLT, Int.reduceLE, Nat.reduceLeDiff, Bool.false_eq_true, reduceCtorEq, not_false_eq_true, not_true_eq_false, decide_not]
  rw [e3]
  have w1 : (upd (upd ρ "_law_odd" (.list [.int (-1), .int (b.length : Int), .int ((b.length : Int) + 1 + rest % 999), .int (-1 - rest % 99), .int 1000000000000, .int 0, .int (rest % ((b.length : Int) + 1))])) "_law_odd" (.int o)) "_law_odd" = some (.int o) := by simp only [Qa, Qb, Qc, Qd, Qe, Qf, retS, nxt, asgN, asgT, Qg, Qh, Qi, Qj, Qk, Ql, Qm, Qn, ne_eq, binR, Qo, Qp, subI, subS, noneE, listD, tupD, Qq, Qr, callP, callQ, Qs, Qt, Qu, Qv, callLen, Qw, Qx, Qy, Qz, QA, QB, QC, QD, QE, QF, QG, QH, QI, QJ, QK, QL, QM, QN, QO, QP, QQ, QR, QS, tob, QT, notB, notV, QU, QV, QW, QX, QY, QZ, Q0, cond_true, cond_false, isR, Q1, Q2, Q3, Q4, Q5, isTup, isLis, isStr, isInt, isBoo, updTup, updAll, updName, Q6, Q7, Q8, Q9, Za, Zb, Zc, Zd, Ze, Zf, Zg, sz0, sz1, sz2, sz3, sz4, sz5, Zh, Zi, Zj, List.map_cons, List.map_nil, List.length_cons, List.length_nil, List.length_map, List.any_cons, List.any_nil, id, if_true, if_false, Bool.not_true, Bool.not_false, Bool.or_false, Bool.false_or, Bool.or_true, Bool.true_or, Bool.and_true, Bool.true_and, Bool.and_false, Bool.false_and, Option.map_some, Option.map_none, decide_true, decide_false, String.reduceEq, reduceIte, Nat.reduceAdd, Int.reduceLT, Int.reduceLE, Nat.reduceLeDiff, Bool.false_eq_true, reduceCtorEq, not_false_eq_true, not_true_eq_false, decide_not]
  have E : HE b s sm way rest (upd (upd ρ "_law_odd" (.list [.int (-1), .int (b.length : Int), .int ((b.length : Int) + 1 + rest % 999), .int (-1 - rest % 99), .int 1000000000000, .int 0, .int (rest % ((b.length : Int) + 1))])) "_law_odd" (.int o)) :=
    ⟨by simp only [e.br, Qa, Qb, Qc, Qd, Qe, Qf, retS, nxt, asgN, asgT, Qg, Qh, Qi, Qj, Qk, Ql, Qm, Qn, ne_eq, binR, Qo, Qp, subI, subS, noneE, listD, tupD, Qq, Qr, callP, callQ, Qs, Qt, Qu, Qv, callLen, Qw, Qx, Qy, Qz, QA, QB, QC, QD, QE, QF, QG, QH, QI, QJ, QK, QL, QM, QN, QO, QP, QQ, QR, QS, tob, QT, notB, notV, QU, QV, QW, QX, QY, QZ, Q0, cond_true, cond_false, isR, Q1, Q2, Q3, Q4, Q5, isTup, isLis, isStr, isInt, isBoo, updTup, updAll, updName, Q6, Q7, Q8, Q9, Za, Zb, Zc, Zd, Ze, Zf, Zg, sz0, sz1, sz2, sz3, sz4, sz5, Zh, Zi, Zj, List.map_cons, List.map_nil, List.length_cons, List.length_nil, List.length_map, List.any_cons, List.any_nil, id, if_true, if_false, Bool.not_true, Bool.not_false, Bool.or_false, Bool.false_or, Bool.or_true, Bool.true_or, Bool.and_true, Bool.true_and, Bool.and_false, Bool.false_and, Option.map_some, Option.map_none, decide_true, decide_false, String.reduceEq, reduceIte, Nat.reduceAdd, Int.reduceLT, Int.reduceLE, Nat.reduceLeDiff, Bool.false_eq_true, reduceCtorEq, not_false_eq_true, not_true_eq_false, decide_not], by simp only [e.st, Qa, Qb, Qc, Qd, Qe, Qf, retS, nxt, asgN, asgT, Qg, Qh, Qi, Qj, Qk, Ql, Qm, Qn, ne_eq, binR, Qo, Qp, subI, subS, noneE, listD, tupD, Qq, Qr, callP, callQ, Qs, Qt, Qu, Qv, callLen, Qw, Qx, Qy, Qz, QA, QB, QC, QD, QE, QF, QG, QH, QI, QJ, QK, QL, QM, QN, QO, QP, QQ, QR, QS, tob, QT, notB, notV, QU, QV, QW, QX, QY, QZ, Q0, cond_true, cond_false, isR, Q1, Q2, Q3, Q4, Q5, isTup, isLis, isStr, isInt, isBoo, updTup, updAll, updName, Q6, Q7, Q8, Q9, Za, Zb, Zc, Zd, Ze, Zf, Zg, sz0, sz1, sz2, sz3, sz4, sz5, Zh, Zi, Zj, List.map_cons, List.map_nil, List.length_cons, List.length_nil, List.length_map, List.any_cons, List.any_nil, id, if_true, if_false, Bool.not_true, Bool.not_false, Bool.or_false, Bool.false_or, Bool.or_true, Bool.true_or, Bool.and_true, Bool.true_and, Bool.and_false, Bool.false_and, Option.map_some, Option.map_none, decide_true, decide_false, String.reduceEq, reduceIte, Nat.reduceAdd, Int.reduceLT, Int.reduceLE, Nat.reduceLeDiff, Bool.false_eq_true, reduceCtorEq, not_false_eq_true, not_true_eq_false, decide_not], by simp only [e.so, Qa, Qb, Qc, Qd, Qe, Qf, retS, nxt, asgN, asgT, Qg, Qh, Qi, Qj, Qk, Ql, Qm, Qn, ne_eq, binR, Qo, Qp, subI, subS, noneE, listD, tupD, Qq, Qr, callP, callQ, Qs, Qt, Qu, Qv, callLen, Qw, Qx, Qy, Qz, QA, QB, QC, QD, QE, QF, QG, QH, QI, QJ, QK, QL, QM, QN, QO, QP, QQ, QR, QS, tob, QT, notB, notV, QU, QV, QW, QX, QY, QZ, Q0, cond_true, cond_false, isR, Q1, Q2, Q3, Q4, Q5, isTup, isLis, isStr, isInt, isBoo, updTup, updAll, updName, Q6, Q7, Q8, Q9, Za, Zb, Zc, Zd, Ze, Zf, Zg, sz0, sz1, sz2, sz3, sz4, sz5, Zh, Zi, Zj, List.map_cons, List.map_nil, List.length_cons, List.length_nil, List.length_map, List.any_cons, List.any_nil, id, if_true, if_false, Bool.not_true, Bool.not_false, Bool.or_false, Bool.false_or, Bool.or_true, Bool.true_or, Bool.and_true, Bool.true_and, Bool.and_false, Bool.false_and, Option.map_some, Option.map_none, decide_true, decide_false, String.reduceEq, reduceIte, Nat.reduceAdd, Int.reduceLT, Int.reduceLE, Nat.reduceLeDiff, Bool.false_eq_true, reduceCtorEq, not_false_eq_true, not_true_eq_false, decide_not], by simp only [e.si, Qa, Qb, Qc, Qd, Qe, Qf, retS, nxt, asgN, asgT, Qg, Qh, Qi, Qj, Qk, Ql, Qm, Qn, ne_eq, binR, Qo, Qp, subI, subS, noneE, listD, tupD, Qq, Qr, callP, callQ, Qs, Qt, Qu, Qv, callLen, Qw, Qx, Qy, Qz, QA, QB, QC, QD, QE, QF, QG, QH, QI, QJ, QK, QL, QM, QN, QO, QP, QQ, QR, QS, tob, QT, notB, notV, QU, QV, QW, QX, QY, QZ, Q0, cond_true, cond_false, isR, Q1, Q2, Q3, Q4, Q5, isTup, isLis, isStr, isInt, isBoo, updTup, updAll, updName, Q6, Q7, Q8, Q9, Za, Zb, Zc, Zd, Ze, Zf, Zg, sz0, sz1, sz2, sz3, sz4, sz5, Zh, Zi, Zj, List.map_cons, List.map_nil, List.length_cons, List.length_nil, List.length_map, List.any_cons, List.any_nil, id, if_true, if_false, Bool.not_true, Bool.not_false, Bool.or_false, Bool.false_or, Bool.or_true, Bool.true_or, Bool.and_true, Bool.true_and, Bool.and_false, Bool.false_and, Option.map_some, Option.map_none, decide_true, decide_false, String.reduceEq, reduceIte, Nat.reduceAdd, Int.reduceLT, Int.reduceLE, Nat.reduceLeDiff, Bool.false_eq_true, reduceCtorEq, not_false_eq_true, not_true_eq_false, decide_not], by simp only [e.wa, Qa, Qb, Qc, Qd, Qe, Qf, retS, nxt, asgN, asgT, Qg, Qh, Qi, Qj, Qk, Ql, Qm, Qn, ne_eq, binR, Qo, Qp, subI, subS, noneE, listD, tupD, Qq, Qr, callP, callQ, Qs, Qt, Qu, Qv, callLen, Qw, Qx, Qy, Qz, QA, QB, QC, QD, QE, QF, QG, QH, QI, QJ, QK, QL, QM, QN, QO, QP, QQ, QR, QS, tob, QT, notB, notV, QU, QV, QW, QX, QY, QZ, Q0, cond_true, cond_false, isR, Q1, Q2, Q3, Q4, Q5, isTup, isLis, isStr, isInt, isBoo, updTup, updAll, updName, Q6, Q7, Q8, Q9, Za, Zb, Zc, Zd, Ze, Zf, Zg, sz0, sz1, sz2, sz3, sz4, sz5, Zh, Zi, Zj, List.map_cons, List.map_nil, List.length_cons, List.length_nil, List.length_map, List.any_cons, List.any_nil, id, if_true, if_false, Bool.not_true, Bool.not_false, Bool.or_false, Bool.false_or, Bool.or_true, Bool.true_or, Bool.and_true, Bool.true_and, Bool.and_false, Bool.false_and, Option.map_some, Option.map_none, decide_true, decide_false, String.reduceEq, reduceIte, Nat.reduceAdd, Int.reduceLT, Int.reduceLE, Nat.reduceLeDiff, Bool.false_eq_true, reduceCtorEq, not_false_eq_true, not_true_eq_false, decide_not], by simp only [e.re, Qa, Qb, Qc, Qd, Qe, Qf, retS, nxt, asgN, asgT, Qg, Qh, Qi, Qj, Qk, Ql, Qm, Qn, ne_eq, binR, Qo, Qp, subI, subS, noneE, listD, tupD, Qq, Qr, callP, callQ, Qs, Qt, Qu, Qv, callLen, Qw, Qx, Qy, Qz, QA, QB, QC, QD, QE, QF, QG, QH, QI, QJ, QK, QL, QM, QN, QO, QP, QQ, QR, QS, tob, QT, notB, notV, QU, QV, QW, QX, QY, QZ, Q0, cond_true, cond_false, isR, Q1, Q2, Q3, Q4, Q5, isTup, isLis, isStr, isInt, isBoo, updTup, updAll, updName, Q6, Q7, Q8, Q9, Za, Zb, Zc, Zd, Ze, Zf, Zg, sz0, sz1, sz2, sz3, sz4, sz5, Zh, Zi, Zj, List.map_cons, List.map_nil, List.length_cons, List.length_nil, List.length_map, List.any_cons, List.any_nil, id, if_true, if_false, Bool.not_true, Bool.not_false, Bool.or_false, Bool.false_or, Bool.or_true, Bool.true_or, Bool.and_true, Bool.true_and, Bool.and_false, Bool.false_and, Option.map_some, Option.map_none, decide_true, decide_false, String.reduceEq, reduceIte, Nat.reduceAdd, Int.reduceLT, Int.reduceLE, Nat.reduceLeDiff, Bool.false_eq_true, reduceCtorEq, not_false_eq_true, not_true_eq_false, decide_not]⟩
  generalize upd (upd ρ "_law_odd" (.list [.int (-1), .int (b.length : Int), .int ((b.length : Int) + 1 + rest % 999), .int (-1 - rest % 99), .int 1000000000000, .int 0, .int (rest % ((b.length : Int) + 1))])) "_law_odd" (.int o) = ρ' at w1 E
  by_cases q : way = 2
  · obtain ⟨s', h1, h2, h3⟩ := put_in_eval n base sm o H (by lia) z.ls z.sr
    refine ⟨b, s', ρ', ?_, ⟨Nat.le_trans z.lb (by lia), by lia, fun r m => Nat.le_trans (z.br r m) (by lia), fun r m => Nat.le_trans (h3 r m) (by lia)⟩⟩
    simp only [s_law_changed_k3, s_law_changed_k1, lkp_some E.wa, lkp_some E.br, lkp_some E.st, lkp_some E.so, lkp_some w1, q, h1, planV, Qa, Qb, Qc, Qd, Qe, Qf, retS, nxt, asgN, asgT, Qg, Qh, Qi, Qj, Qk, Ql, Qm, Qn, ne_eq, binR, Qo, Qp, subI, subS, noneE, listD, tupD, Qq, Qr, callP, callQ, Qs, Qt, Qu, Qv, callLen, Qw, Qx, Qy, Qz, QA, QB, QC, QD, QE, QF, QG, QH, QI, QJ, QK, QL, QM, QN, QO, QP, QQ, QR, QS, tob, QT, notB, notV, QU, QV, QW, QX, QY, QZ, Q0, cond_true, cond_false, isR, Q1, Q2, Q3, Q4, Q5, isTup, isLis, isStr, isInt, isBoo, updTup, updAll, updName, Q6, Q7, Q8, Q9, Za, Zb, Zc, Zd, Ze, Zf, Zg, sz0, sz1, sz2, sz3, sz4, sz5, Zh, Zi, Zj, List.map_cons, List.map_nil, List.length_cons, List.length_nil, List.length_map, List.any_cons, List.any_nil, id, if_true, if_false, Bool.not_true, Bool.not_false, Bool.or_false, Bool.false_or, Bool.or_true, Bool.true_or, Bool.and_true, Bool.true_and, Bool.and_false, Bool.false_and, Option.map_some, Option.map_none, decide_true, decide_false, String.reduceEq, reduceIte, Nat.reduceAdd, Int.reduceLT, Int.reduceLE, Nat.reduceLeDiff, Bool.false_eq_true, reduceCtorEq, not_false_eq_true, not_true_eq_false, decide_not]
  · obtain ⟨b', h1, h2, h3⟩ := put_in_eval n base sm o H (by lia) z.lb z.br
    refine ⟨b', s, ρ', ?_, ⟨by lia, Nat.le_trans z.ls (by lia), fun r m => Nat.le_trans (h3 r m) (by lia), fun r m => Nat.le_trans (z.sr r m) (by lia)⟩⟩
    simp only [s_law_changed_k3, s_law_changed_k2, lkp_some E.wa, lkp_some E.br, lkp_some E.st, lkp_some E.so, lkp_some w1, q, h1, planV, Qa, Qb, Qc, Qd, Qe, Qf, retS, nxt, asgN, asgT, Qg, Qh, Qi, Qj, Qk, Ql, Qm, Qn, ne_eq, binR, Qo, Qp, subI, subS, noneE, listD, tupD, Qq, Qr, callP, callQ, Qs, Qt, Qu, Qv, callLen, Qw, Qx, Qy, Qz, QA, QB, QC, QD, QE, QF, QG, QH, QI, QJ, QK, QL, QM, QN, QO, QP, QQ, QR, QS, tob, QT, notB, notV, QU, QV, QW, QX, QY, QZ, Q0, cond_true, cond_false, isR, Q1, Q2, Q3, Q4, Q5, isTup, isLis, isStr, isInt, isBoo, updTup, updAll, updName, Q6, Q7, Q8, Q9, Za, Zb, Zc, Zd, Ze, Zf, Zg, sz0, sz1, sz2, sz3, sz4, sz5, Zh, Zi, Zj, List.map_cons, List.map_nil, List.length_cons, List.length_nil, List.length_map, List.any_cons, List.any_nil, id, if_true, if_false, Bool.not_true, Bool.not_false, Bool.or_false, Bool.false_or, Bool.or_true, Bool.true_or, Bool.and_true, Bool.true_and, Bool.and_false, Bool.false_and, Option.map_some, Option.map_none, decide_true, decide_false, String.reduceEq, reduceIte, Nat.reduceAdd, Int.reduceLT, Int.reduceLE, Nat.reduceLeDiff, Bool.false_eq_true, reduceCtorEq, not_false_eq_true, not_true_eq_false, decide_not]
theorem own_way (n base : Nat) (H : HP) (hm : m ≤ 499) (z : Sz m b s) (e : HE b s sm way rest ρ) (h0 : (0 : Int) < (b.length : Int)) : ∃ b' s' ρ', s_law_changed_k6 (callF CC (n+1)) base ρ H = some (.ret (planV b' s'), ρ', H) ∧ Sz (m + 201) b' s' := by
  have m1 : ∀ G, binV .Mod (.int sm) (.int (b.length : Int)) G = some (.int (sm % (b.length : Int))) := fun G => bin_mod h0
  have hn := Int.emod_nonneg sm (by lia : (b.length : Int) ≠ 0)
  have m2 : ∀ G, binV .Mod (.int rest) (.int (sm % (b.length : Int) + 1)) G = some (.int (rest % (sm % (b.length : Int) + 1))) := fun G => bin_mod (by lia)
  obtain ⟨b', h1, h2, h3⟩ := put_in_eval n base sm (rest % (sm % (b.length : Int) + 1)) H (by lia) z.lb z.br
  refine ⟨b', s, ρ, ?_, ⟨by lia, Nat.le_trans z.ls (by lia), fun r m => Nat.le_trans (h3 r m) (by lia), fun r m => Nat.le_trans (z.sr r m) (by lia)⟩⟩
  simp only [s_law_changed_k6, lkp_some e.br, lkp_some e.st, lkp_some e.so, lkp_some e.si, lkp_some e.re, m1, m2, h1, planV, Qa, Qb, Qc, Qd, Qe, Qf, retS, nxt, asgN, asgT, Qg, Qh, Qi, Qj, Qk, Ql, Qm, Qn, ne_eq, binR, Qo, Qp, subI, subS, noneE, listD, tupD, Qq, Qr, callP, callQ, Qs, Qt, Qu, Qv, callLen, Qw, Qx, Qy, Qz, QA, QB, QC, QD, QE, QF, QG, QH, QI, QJ, QK, QL, QM, QN, QO, QP, QQ, QR, QS, tob, QT, notB, notV, QU, QV, QW, QX, QY, QZ, Q0, cond_true, cond_false, isR, Q1, Q2, Q3, Q4, Q5, isTup, isLis, isStr, isInt, isBoo, updTup, updAll, updName, Q6, Q7, Q8, Q9, Za, Zb, Zc, Zd, Ze, Zf, Zg, sz0, sz1, sz2, sz3, sz4, sz5, Zh, Zi, Zj, List.map_cons, List.map_nil, List.length_cons, List.length_nil, List.length_map, List.any_cons, List.any_nil, id, if_true, if_false, Bool.not_true, Bool.not_false, Bool.or_false, Bool.false_or, Bool.or_true, Bool.true_or, Bool.and_true, Bool.true_and, Bool.and_false, Bool.false_and, Option.map_some, Option.map_none, decide_true, decide_false, String.reduceEq, reduceIte, Nat.reduceAdd, Int.reduceLT, Int.reduceLE, Nat.reduceLeDiff, Bool.false_eq_true, reduceCtorEq, not_false_eq_true, not_true_eq_false, decide_not]
theorem other_way (n base : Nat) (H : HP) (hm : m ≤ 499) (z : Sz m b s) (e : HE b s sm way rest ρ) (h0 : (0 : Int) < (b.length : Int)) : ∃ b' s' ρ', s_law_changed_k7 (callF CC (n+1)) base ρ H = some (.ret (planV b' s'), ρ', H) ∧ Sz (m + 201) b' s' := by
  have m1 : ∀ G, binV .Mod (.int rest) (.int (b.length : Int)) G = some (.int (rest % (b.length : Int))) := fun G => bin_mod h0
  obtain ⟨s', h1, h2, h3⟩ := put_in_eval n base sm (rest % (b.length : Int)) H (by lia) z.ls z.sr
  refine ⟨b, s', ρ, ?_, ⟨Nat.le_trans z.lb (by lia), by lia, fun r m => Nat.le_trans (z.br r m) (by lia), fun r m => Nat.le_trans (h3 r m) (by lia)⟩⟩
  simp only [s_law_changed_k7, lkp_some e.br, lkp_some e.st, lkp_some e.so, lkp_some e.si, lkp_some e.re, m1, h1, planV, Qa, Qb, Qc, Qd, Qe, Qf, retS, nxt, asgN, asgT, Qg, Qh, Qi, Qj, Qk, Ql, Qm, Qn, ne_eq, binR, Qo, Qp, subI, subS, noneE, listD, tupD, Qq, Qr, callP, callQ, Qs, Qt, Qu, Qv, callLen, Qw, Qx, Qy, Qz, QA, QB, QC, QD, QE, QF, QG, QH, QI, QJ, QK, QL, QM, QN, QO, QP, QQ, QR, QS, tob, QT, notB, notV, QU, QV, QW, QX, QY, QZ, Q0, cond_true, cond_false, isR, Q1, Q2, Q3, Q4, Q5, isTup, isLis, isStr, isInt, isBoo, updTup, updAll, updName, Q6, Q7, Q8, Q9, Za, Zb, Zc, Zd, Ze, Zf, Zg, sz0, sz1, sz2, sz3, sz4, sz5, Zh, Zi, Zj, List.map_cons, List.map_nil, List.length_cons, List.length_nil, List.length_map, List.any_cons, List.any_nil, id, if_true, if_false, Bool.not_true, Bool.not_false, Bool.or_false, Bool.false_or, Bool.or_true, Bool.true_or, Bool.and_true, Bool.true_and, Bool.and_false, Bool.false_and, Option.map_some, Option.map_none, decide_true, decide_false, String.reduceEq, reduceIte, Nat.reduceAdd, Int.reduceLT, Int.reduceLE, Nat.reduceLeDiff, Bool.false_eq_true, reduceCtorEq, not_false_eq_true, not_true_eq_false, decide_not]
theorem crew_way (n base : Nat) (H : HP) (hm : m ≤ 499) (z : Sz m b s) (e : HE b s sm way rest ρ) : ∃ b' s' ρ', s_law_changed_k8 (callF CC n) base ρ H = some (.ret (planV b' s'), ρ', H) ∧ Sz (m + 201) b' s' := by
  have hz := z.ls
  have h4 : ∃ k : Nat, k ≤ 13 ∧ ∀ G, getIdx G (.list [.int 0, .int 1, .int 12, .int 13]) (.int (rest % 4)) = some (.int (k : Int)) := by
    rcases (by lia : rest % 4 = 0 ∨ rest % 4 = 1 ∨ rest % 4 = 2 ∨ rest % 4 = 3) with q | q | q | q
    · rw [q]; exact ⟨0, by lia, fun G => Zd _ _ _⟩
    · rw [q]; exact ⟨1, by lia, fun G => Ze _ _ _ _⟩
    · rw [q]; exact ⟨12, by lia, fun G => Zf _ _ _ _ _⟩
    · rw [q]; exact ⟨13, by lia, fun G => Zg _ _ _ _ _ _⟩
  obtain ⟨k, hk, h4⟩ := h4
  have mu : ∀ G, binV .Mult (.list (s.map iL)) (.int 13) G = some (.list ((repZ s 13).map iL)) := fun G => by
    rw [mul_list (by rw [List.length_map]; exact szOf (by lia)), repL_map]
  have sl : ∀ G, getSl G (.list ((repZ s 13).map iL)) none (some (k : Int)) = some (.list (((repZ s 13).take k).map iL)) := fun G => by rw [getSl_list, sl_to, ← List.map_take]
  have a1 := asO_nat (j := k) (szOf (by lia))
  refine ⟨b, (repZ s 13).take k, ρ, ?_, ⟨Nat.le_trans z.lb (by lia), by rw [List.length_take]; lia, fun r m => Nat.le_trans (z.br r m) (by lia), fun r m => Nat.le_trans (z.sr r (repZ_mem (List.mem_of_mem_take m))) (by lia)⟩⟩
  simp only [s_law_changed_k8, lkp_some e.br, lkp_some e.st, lkp_some e.re, mu, sl, a1, asO_none, h4, bin_mod, planV, Qa, Qb, Qc, Qd, Qe, Qf, retS, nxt, asgN, asgT, Qg, Qh, Qi, Qj, Qk, Ql, Qm, Qn, ne_eq, binR, Qo, Qp, subI, subS, noneE, listD, tupD, Qq, Qr, callP, callQ, Qs, Qt, Qu, Qv, callLen, Qw, Qx, Qy, Qz, QA, QB, QC, QD, QE, QF, QG, QH, QI, QJ, QK, QL, QM, QN, QO, QP, QQ, QR, QS, tob, QT, notB, notV, QU, QV, QW, QX, QY, QZ, Q0, cond_true, cond_false, isR, Q1, Q2, Q3, Q4, Q5, isTup, isLis, isStr, isInt, isBoo, updTup, updAll, updName, Q6, Q7, Q8, Q9, Za, Zb, Zc, Zd, Ze, Zf, Zg, sz0, sz1, sz2, sz3, sz4, sz5, Zh, Zi, Zj, List.map_cons, List.map_nil, List.length_cons, List.length_nil, List.length_map, List.any_cons, List.any_nil, id, if_true, if_false, Bool.not_true, Bool.not_false, Bool.or_false, Bool.false_or, Bool.or_true, Bool.true_or, Bool.and_true, Bool.true_and, Bool.and_false, Bool.false_and, Option.map_some, Option.map_none, decide_true, decide_false, String.reduceEq, reduceIte, Nat.reduceAdd, Int.reduceLT, Int.reduceLE, Nat.reduceLeDiff, Bool.false_eq_true, reduceCtorEq, not_false_eq_true, not_true_eq_false, decide_not]
theorem more_way (n base : Nat) (H : HP) (hm : m ≤ 499) (z : Sz m b s) (e : HE b s sm way rest ρ) : ∃ b' s' ρ', s_law_changed_k11 (callF CC n) base ρ H = some (.ret (planV b' s'), ρ', H) ∧ Sz (m + 201) b' s' := by
  have hz := z.lb
  have h3 : ∃ k : Nat, k ≤ 201 ∧ ∀ G, getIdx G (.list [.int 200, .int 201, .int 199]) (.int (rest % 3)) = some (.int (k : Int)) := by
    rcases (by lia : rest % 3 = 0 ∨ rest % 3 = 1 ∨ rest % 3 = 2) with q | q | q
    · rw [q]; exact ⟨200, by lia, fun G => Zd _ _ _⟩
    · rw [q]; exact ⟨201, by lia, fun G => Ze _ _ _ _⟩
    · rw [q]; exact ⟨199, by lia, fun G => Zf _ _ _ _ _⟩
  obtain ⟨k, hk, h3⟩ := h3
  have sm : small ((k : Int) - (b.length : Int)) = true := small_of (by lia) (by lia)
  have len : (rangeL 0 ((k : Int) - (b.length : Int))).length ≤ 201 := by simp only [rangeL, List.length_map, List.length_range]; lia
  have cp : compR tt0 (s_law_changed_c9 (callF CC n) base) "_law_k" ρ (s_law_changed_i10 (callF CC n) base ρ) H = some ((List.replicate (rangeL 0 ((k : Int) - (b.length : Int))).length []).map iL, H) := by
    rw [compR_map (src := .range 0 ((k : Int) - (b.length : Int))) (xs := rangeL 0 ((k : Int) - (b.length : Int))) (fun _ => AV.list []) (by simp only [s_law_changed_i10, lkp_some e.re, lkp_some e.si, h3, bin_mod, sm, Qa, Qb, Qc, Qd, Qe, Qf, retS, nxt, asgN, asgT, Qg, Qh, Qi, Qj, Qk, Ql, Qm, Qn, ne_eq, binR, Qo, Qp, subI, subS, noneE, listD, tupD, Qq, Qr, callP, callQ, Qs, Qt, Qu, Qv, callLen, Qw, Qx, Qy, Qz, QA, QB, QC, QD, QE, QF, QG, QH, QI, QJ, QK, QL, QM, QN, QO, QP, QQ, QR, QS, tob, QT, notB, notV, QU, QV, QW, QX, QY, QZ, Q0, cond_true, cond_false, isR, Q1, Q2, Q3, Q4, Q5, isTup, isLis, isStr, isInt, isBoo, updTup, updAll, updName, Q6, Q7, Q8, Q9, Za, Zb, Zc, Zd, Ze, Zf, Zg, sz0, sz1, sz2, sz3, sz4, sz5, Zh, Zi, Zj, List.map_cons, List.map_nil, List.length_cons, List.length_nil, List.length_map, List.any_cons, List.any_nil, id, if_true, if_false, Bool.not_true, Bool.not_false, Bool.or_false, Bool.false_or, Bool.or_true, Bool.true_or, Bool.and_true, Bool.true_and, Bool.and_false, Bool.false_and, Option.map_some, Option.map_none, decide_true, decide_false, String.reduceEq, reduceIte, Nat.reduceAdd, Int.reduceLT, Int.reduceLE, Nat.reduceLeDiff, Bool.false_eq_true, reduceCtorEq, not_false_eq_true, not_true_eq_false, decide_not]) rfl (szOf (by lia)) (fun v m => by simp only [s_law_changed_c9, Qa, Qb, Qc, Qd, Qe, Qf, retS, nxt, asgN, asgT, Qg, Qh, Qi, Qj, Qk, Ql, Qm, Qn, ne_eq, binR, Qo, Qp, subI, subS, noneE, listD, tupD, Qq, Qr, callP, callQ, Qs, Qt, Qu, Qv, callLen, Qw, Qx, Qy, Qz, QA, QB, QC, QD, QE, QF, QG, QH, QI, QJ, QK, QL, QM, QN, QO, QP, QQ, QR, QS, tob, QT, notB, notV, QU, QV, QW, QX, QY, QZ, Q0, cond_true, cond_false, isR, Q1, Q2, Q3, Q4, Q5, isTup, isLis, isStr, isInt, isBoo, updTup, updAll, updName, Q6, Q7, Q8, Q9, Za, Zb, Zc, Zd, Ze, Zf, Zg, sz0, sz1, sz2, sz3, sz4, sz5, Zh, Zi, Zj, List.map_cons, List.map_nil, List.length_cons, List.length_nil, List.length_map, List.any_cons, List.any_nil, id, if_true, if_false, Bool.not_true, Bool.not_false, Bool.or_false, Bool.false_or, Bool.or_true, Bool.true_or, Bool.and_true, Bool.true_and, Bool.and_false, Bool.false_and, Option.map_some, Option.map_none, decide_true, decide_false, String.reduceEq, reduceIte, Nat.reduceAdd, Int.reduceLT, Int.reduceLE, Nat.reduceLeDiff, Bool.false_eq_true, reduceCtorEq, not_false_eq_true, not_true_eq_false, decide_not]), List.map_const', List.map_replicate]
    rfl
  generalize (rangeL 0 ((k : Int) - (b.length : Int))).length = l at len cp
  have ct : ∀ G, binV .Add (.list (b.map iL)) (.list ((List.replicate l []).map iL)) G = some (.list ((b ++ List.replicate l []).map iL)) := fun G => by
    rw [catLL (by simp only [List.length_map, List.length_replicate]; exact szOf (by lia)), List.map_append]
  refine ⟨b ++ List.replicate l [], s, ρ, ?_, ⟨by rw [List.length_append, List.length_replicate]; lia, Nat.le_trans z.ls (by lia), fun r m => ?_, fun r m => Nat.le_trans (z.sr r m) (by lia)⟩⟩
  · simp only [s_law_changed_k11, lkp_some e.br, lkp_some e.st, cp, Q6, ct, planV, Qa, Qb, Qc, Qd, Qe, Qf, retS, nxt, asgN, asgT, Qg, Qh, Qi, Qj, Qk, Ql, Qm, Qn, ne_eq, binR, Qo, Qp, subI, subS, noneE, listD, tupD, Qq, Qr, callP, callQ, Qs, Qt, Qu, Qv, callLen, Qw, Qx, Qy, Qz, QA, QB, QC, QD, QE, QF, QG, QH, QI, QJ, QK, QL, QM, QN, QO, QP, QQ, QR, QS, tob, QT, notB, notV, QU, QV, QW, QX, QY, QZ, Q0, cond_true, cond_false, isR, Q1, Q2, Q3, Q4, Q5, isTup, isLis, isStr, isInt, isBoo, updTup, updAll, updName, Q6, Q7, Q8, Q9, Za, Zb, Zc, Zd, Ze, Zf, Zg, sz0, sz1, sz2, sz3, sz4, sz5, Zh, Zi, Zj, List.map_cons, List.map_nil, List.length_cons, List.length_nil, List.length_map, List.any_cons, List.any_nil, id, if_true, if_false, Bool.not_true, Bool.not_false, Bool.or_false, Bool.false_or, Bool.or_true, Bool.true_or, Bool.and_true, Bool.true_and, Bool.and_false, Bool.false_and, Option.map_some, Option.map_none, decide_true, decide_false, String.reduceEq, reduceIte, Nat.reduceAdd, Int.reduceLT, Int.reduceLE, Nat.reduceLeDiff, Bool.false_eq_true, reduceCtorEq, not_false_eq_true, not_true_eq_false, decide_not]
  · rcases List.mem_append.mp m with q | q
    · exact Nat.le_trans (z.br r q) (by lia)
    · rw [List.eq_of_mem_replicate q]; exact Nat.zero_le _
theorem changed_eval (n base : Nat) (cell sm : Int) (H : HP) (hm : m ≤ 499) (z : Sz m b s) : ∃ b' s', callF CC (n+2) base "_law_changed" [planV b s, .int cell, .int sm] H = some (planV b' s', H) ∧ Sz (m + 201) b' s' := by
  rw [g_law_changed]
  have a1 : ∃ ρ, s_law_changed (callF CC (n+1)) base (planV b s) (.int cell) (.int sm) H = finR (s_law_changed_k17 (callF CC (n+1)) base ρ H) ∧ HE b s sm (cell % 9) (cell / 9) ρ := by
    refine ⟨upd (upd (upd (upd (upd (upd (upd (upd locNil "_law_plan" (planV b s)) "_law_cell" (.int cell)) "_law_some" (.int sm)) "_law_brood" (.list (b.map iL))) "_law_starts" (.list (s.map iL))) "_law_size" (.int (b.length : Int))) "_law_way" (.int (cell % 9))) "_law_rest" (.int (cell / 9)), ?_, ⟨by simp only [Qa, Qb, Qc, Qd, Qe, Qf, retS, nxt, asgN, asgT, Qg, Qh, Qi, Qj, Qk, Ql, Qm, Qn, ne_eq, binR, Qo, Qp, subI, subS, noneE, listD, tupD, Qq, Qr, callP, callQ, Qs, Qt, Qu, Qv, callLen, Qw, Qx, Qy, Qz, QA, QB, QC, QD, QE, QF, QG, QH, QI, QJ, QK, QL, QM, QN, QO, QP, QQ, QR, QS, tob, QT, notB, notV, QU, QV, QW, QX, QY, QZ, Q0, cond_true, cond_false, isR, Q1, Q2, Q3, Q4, Q5, isTup, isLis, isStr, isInt, isBoo, updTup, updAll, updName, Q6, Q7, Q8, Q9, Za, Zb, Zc, Zd, Ze, Zf, Zg, sz0, sz1, sz2, sz3, sz4, sz5, Zh, Zi, Zj, List.map_cons, List.map_nil, List.length_cons, List.length_nil, List.length_map, List.any_cons, List.any_nil, id, if_true, if_false, Bool.not_true, Bool.not_false, Bool.or_false, Bool.false_or, Bool.or_true, Bool.true_or, Bool.and_true, Bool.true_and, Bool.and_false, Bool.false_and, Option.map_some, Option.map_none, decide_true, decide_false, String.reduceEq, reduceIte, Nat.reduceAdd, Int.reduceLT, Int.reduceLE, Nat.reduceLeDiff, Bool.false_eq_true, reduceCtorEq, not_false_eq_true, not_true_eq_false, decide_not], by simp only [Qa, Qb, Qc, Qd, Qe, Qf, retS, nxt, asgN, asgT, Qg, Qh, Qi, Qj, Qk, Ql, Qm, Qn, ne_eq, binR, Qo, Qp, subI, subS, noneE, listD, tupD, Qq, Qr, callP, callQ, Qs, Qt, Qu, Qv, callLen, Qw, Qx, Qy, Qz, QA, QB, QC, QD, QE, QF, QG, QH, QI, QJ, QK, QL, QM, QN, QO, QP, QQ, QR, QS, tob, QT, notB, notV, QU, QV, QW, QX, QY, QZ, Q0, cond_true, cond_false, isR, Q1, Q2, Q3, Q4, Q5, isTup, isLis, isStr, isInt, isBoo, updTup, updAll, updName, Q6, Q7, Q8, Q9, Za, Zb, Zc, Zd, Ze, Zf, Zg, sz0, sz1, sz2, sz3, sz4, sz5, Zh, Zi, Zj, List.map_cons, List.map_nil, List.length_cons, List.length_nil, List.length_map, List.any_cons, List.any_nil, id, if_true, if_false, Bool.not_true, Bool.not_false, Bool.or_false, Bool.false_or, Bool.or_true, Bool.true_or, Bool.and_true, Bool.true_and, Bool.and_false, Bool.false_and, Option.map_some, Option.map_none, decide_true, decide_false, String.reduceEq, reduceIte, Nat.reduceAdd, Int.reduceLT, Int.reduceLE, Nat.reduceLeDiff, Bool.false_eq_true, reduceCtorEq, not_false_eq_true, not_true_eq_false, decide_not], by simp only [Qa, Qb, Qc, Qd, Qe, Qf, retS, nxt, asgN, asgT, Qg, Qh, Qi, Qj, Qk, Ql, Qm, Qn, ne_eq, binR, Qo, Qp, subI, subS, noneE, listD, tupD, Qq, Qr, callP, callQ, Qs, Qt, Qu, Qv, callLen, Qw, Qx, Qy, Qz, QA, QB, QC, QD, QE, QF, QG, QH, QI, QJ, QK, QL, QM, QN, QO, QP, QQ, QR, QS, tob, QT, notB, notV, QU, QV, QW, QX, QY, QZ, Q0, cond_true, cond_false, isR, Q1, Q2, Q3, Q4, Q5, isTup, isLis, isStr, isInt, isBoo, updTup, updAll, updName, Q6, Q7, Q8, Q9, Za, Zb, Zc, Zd, Ze, Zf, Zg, sz0, sz1, sz2, sz3, sz4, sz5, Zh, Zi, Zj, List.map_cons, List.map_nil, List.length_cons, List.length_nil, List.length_map, List.any_cons, List.any_nil, id, if_true, if_false, Bool.not_true, Bool.not_false, Bool.or_false, Bool.false_or, Bool.or_true, Bool.true_or, Bool.and_true, Bool.true_and, Bool.and_false, Bool.false_and, Option.map_some, Option.map_none, decide_true, decide_false, String.reduceEq, reduceIte, Nat.reduceAdd, Int.reduceLT, Int.reduceLE, Nat.reduceLeDiff, Bool.false_eq_true, reduceCtorEq, not_false_eq_true, not_true_eq_false, decide_not], by simp only [Qa, Qb, Qc, Qd, Qe, Qf, retS, nxt, asgN, asgT, Qg, Qh, Qi, Qj, Qk, Ql, Qm, Qn, ne_eq, binR, Qo, Qp, subI, subS, noneE, listD, tupD, Qq, Qr, callP, callQ, Qs, Qt, Qu, Qv, callLen, Qw, Qx, Qy, Qz, QA, QB, QC, QD, QE, QF, QG, QH, QI, QJ, QK, QL, QM, QN, QO, QP, QQ, QR, QS, tob, QT, notB, notV, QU, QV, QW, QX, QY, QZ, Q0, cond_true, cond_false, isR, Q1, Q2, Q3, Q4, Q5, isTup, isLis, isStr, isInt, isBoo, updTup, updAll, updName, Q6, Q7, Q8, Q9, Za, Zb, Zc, Zd, Ze, Zf, Zg, sz0, sz1, sz2, sz3, sz4, sz5, Zh, Zi, Zj, List.map_cons, List.map_nil, List.length_cons, List.length_nil, List.length_map, List.any_cons, List.any_nil, id, if_true, if_false, Bool.not_true, Bool.not_false, Bool.or_false, Bool.false_or, Bool.or_true, Bool.true_or, Bool.and_true, Bool.true_and, Bool.and_false, Bool.false_and, Option.map_some, Option.map_none, decide_true, decide_false, String.reduceEq, reduceIte, Nat.reduceAdd, Int.reduceLT, Int.reduceLE, Nat.reduceLeDiff, Bool.false_eq_true, reduceCtorEq, not_false_eq_true, not_true_eq_false, decide_not], by simp only [Qa, Qb, Qc, Qd, Qe, Qf, retS, nxt, asgN, asgT, Qg, Qh, Qi, Qj, Qk, Ql, Qm, Qn, ne_eq, binR, Qo, Qp, subI, subS, noneE, listD, tupD, Qq, Qr, callP, callQ, Qs, Qt, Qu, Qv, callLen, Qw, Qx, Qy, Qz, QA, QB, QC, QD, QE, QF, QG, QH, QI, QJ, QK, QL, QM, QN, QO, QP, QQ, QR, QS, tob, QT, notB, notV, QU, QV, QW, QX, QY, QZ, Q0, cond_true, cond_false, isR, Q1, Q2, Q3, Q4, Q5, isTup, isLis, isStr, isInt, isBoo, updTup, updAll, updName, Q6, Q7, Q8, Q9, Za, Zb, Zc, Zd, Ze, Zf, Zg, sz0, sz1, sz2, sz3, sz4, sz5, Zh, Zi, Zj, List.map_cons, List.map_nil, List.length_cons, List.length_nil, List.length_map, List.any_cons, List.any_nil, id, if_true, if_false, Bool.not_true, Bool.not_false, Bool.or_false, Bool.false_or, Bool.or_true, Bool.true_or, Bool.and_true, Bool.true_and, Bool.and_false, Bool.false_and, Option.map_some, Option.map_none, decide_true, decide_false, String.reduceEq, reduceIte, Nat.reduceAdd, Int.reduceLT, Int.reduceLE, Nat.reduceLeDiff, Bool.false_eq_true, reduceCtorEq, not_false_eq_true, not_true_eq_false, decide_not], by simp only [Qa, Qb, Qc, Qd, Qe, Qf, retS, nxt, asgN, asgT, Qg, Qh, Qi, Qj, Qk, Ql, Qm, Qn, ne_eq, binR, Qo, Qp, subI, subS, noneE, listD, tupD, Qq, Qr, callP, callQ, Qs, Qt, Qu, Qv, callLen, Qw, Qx, Qy, Qz, QA, QB, QC, QD, QE, QF, QG, QH, QI, QJ, QK, QL, QM, QN, QO, QP, QQ, QR, QS, tob, QT, notB, notV, QU, QV, QW, QX, QY, QZ, Q0, cond_true, cond_false, isR, Q1, Q2, Q3, Q4, Q5, isTup, isLis, isStr, isInt, isBoo, updTup, updAll, updName, Q6, Q7, Q8, Q9, Za, Zb, Zc, Zd, Ze, Zf, Zg, sz0, sz1, sz2, sz3, sz4, sz5, Zh, Zi, Zj, List.map_cons, List.map_nil, List.length_cons, List.length_nil, List.length_map, List.any_cons, List.any_nil, id, if_true, if_false, Bool.not_true, Bool.not_false, Bool.or_false, Bool.false_or, Bool.or_true, Bool.true_or, Bool.and_true, Bool.true_and, Bool.and_false, Bool.false_and, Option.map_some, Option.map_none, decide_true, decide_false, String.reduceEq, reduceIte, Nat.reduceAdd, Int.reduceLT, Int.reduceLE, Nat.reduceLeDiff, Bool.false_eq_true, reduceCtorEq, not_false_eq_true, not_true_eq_false, decide_not]⟩⟩
    simp only [s_law_changed, s_law_changed_body, s_law_changed_k20, s_law_changed_k19, s_law_changed_k18, planV, bin_mod, bin_div, Qa, Qb, Qc, Qd, Qe, Qf, retS, nxt, asgN, asgT, Qg, Qh, Qi, Qj, Qk, Ql, Qm, Qn, ne_eq, binR, Qo, Qp, subI, subS, noneE, listD, tupD, Qq, Qr, callP, callQ, Qs, Qt, Qu, Qv, callLen, Qw, Qx, Qy, Qz, QA, QB, QC, QD, QE, QF, QG, QH, QI, QJ, QK, QL, QM, QN, QO, QP, QQ, QR, QS, tob, QT, notB, notV, QU, QV, QW, QX, QY, QZ, Q0, cond_true, cond_false, isR, Q1, Q2, Q3, Q4, Q5, isTup, isLis, isStr, isInt, isBoo, updTup, updAll, updName, Q6, Q7, Q8, Q9, Za, Zb, Zc, Zd, Ze, Zf, Zg, sz0, sz1, sz2, sz3, sz4, sz5, Zh, Zi, Zj, List.map_cons, List.map_nil, List.length_cons, List.length_nil, List.length_map, List.any_cons, List.any_nil, id, if_true, if_false, Bool.not_true, Bool.not_false, Bool.or_false, Bool.false_or, Bool.or_true, Bool.true_or, Bool.and_true, Bool.true_and, Bool.and_false, Bool.false_and, Option.map_some, Option.map_none, decide_true, decide_false, String.reduceEq, reduceIte, Nat.reduceAdd, Int.reduceLT, Int.reduceLE, Nat.reduceLeDiff, Bool.false_eq_true, reduceCtorEq, not_false_eq_true, not_true_eq_false, decide_not]
  obtain ⟨ρ, a1, e⟩ := a1
  rw [a1]
  generalize cell / 9 = rest at e
  have hw : 0 ≤ cell % 9 ∧ cell % 9 < 9 := by lia
  generalize cell % 9 = way at e hw
  have fin : ∀ {r : RS} {b' s' : List (List Int)} (ρ' : Loc), r = some (.ret (planV b' s'), ρ', H) → Sz (m + 201) b' s' → ∃ b' s', finR r = some (planV b' s', H) ∧ Sz (m + 201) b' s' := fun _ h1 h2 => ⟨_, _, by rw [h1]; rfl, h2⟩
  have same : ∃ b' s' ρ', s_law_changed_k12 (callF CC (n+1)) base ρ H = some (.ret (planV b' s'), ρ', H) ∧ Sz (m + 201) b' s' := ⟨b, s, ρ, by simp only [s_law_changed_k12, lkp_some e.br, lkp_some e.st, planV, Qa, Qb, Qc, Qd, Qe, Qf, retS, nxt, asgN, asgT, Qg, Qh, Qi, Qj, Qk, Ql, Qm, Qn, ne_eq, binR, Qo, Qp, subI, subS, noneE, listD, tupD, Qq, Qr, callP, callQ, Qs, Qt, Qu, Qv, callLen, Qw, Qx, Qy, Qz, QA, QB, QC, QD, QE, QF, QG, QH, QI, QJ, QK, QL, QM, QN, QO, QP, QQ, QR, QS, tob, QT, notB, notV, QU, QV, QW, QX, QY, QZ, Q0, cond_true, cond_false, isR, Q1, Q2, Q3, Q4, Q5, isTup, isLis, isStr, isInt, isBoo, updTup, updAll, updName, Q6, Q7, Q8, Q9, Za, Zb, Zc, Zd, Ze, Zf, Zg, sz0, sz1, sz2, sz3, sz4, sz5, Zh, Zi, Zj, List.map_cons, List.map_nil, List.length_cons, List.length_nil, List.length_map, List.any_cons, List.any_nil, id, if_true, if_false, Bool.not_true, Bool.not_false, Bool.or_false, Bool.false_or, Bool.or_true, Bool.true_or, Bool.and_true, Bool.true_and, Bool.and_false, Bool.false_and, Option.map_some, Option.map_none, decide_true, decide_false, String.reduceEq, reduceIte, Nat.reduceAdd, Int.reduceLT, Int.reduceLE, Nat.reduceLeDiff, Bool.false_eq_true, reduceCtorEq, not_false_eq_true, not_true_eq_false, decide_not], z.mono (by lia)⟩
  by_cases w3 : way < 3
  · obtain ⟨b', s', ρ', h1, h2⟩ := odd_way n base H hm z e
    exact fin ρ' (by simp only [s_law_changed_k17, lkp_some e.wa, w3, h1, Qa, Qb, Qc, Qd, Qe, Qf, retS, nxt, asgN, asgT, Qg, Qh, Qi, Qj, Qk, Ql, Qm, Qn, ne_eq, binR, Qo, Qp, subI, subS, noneE, listD, tupD, Qq, Qr, callP, callQ, Qs, Qt, Qu, Qv, callLen, Qw, Qx, Qy, Qz, QA, QB, QC, QD, QE, QF, QG, QH, QI, QJ, QK, QL, QM, QN, QO, QP, QQ, QR, QS, tob, QT, notB, notV, QU, QV, QW, QX, QY, QZ, Q0, cond_true, cond_false, isR, Q1, Q2, Q3, Q4, Q5, isTup, isLis, isStr, isInt, isBoo, updTup, updAll, updName, Q6, Q7, Q8, Q9, Za, Zb, Zc, Zd, Ze, Zf, Zg, sz0, sz1, sz2, sz3, sz4, sz5, Zh, Zi, Zj, List.map_cons, List.map_nil, List.length_cons, List.length_nil, List.length_map, List.any_cons, List.any_nil, id, if_true, if_false, Bool.not_true, Bool.not_false, Bool.or_false, Bool.false_or, Bool.or_true, Bool.true_or, Bool.and_true, Bool.true_and, Bool.and_false, Bool.false_and, Option.map_some, Option.map_none, decide_true, decide_false, String.reduceEq, reduceIte, Nat.reduceAdd, Int.reduceLT, Int.reduceLE, Nat.reduceLeDiff, Bool.false_eq_true, reduceCtorEq, not_false_eq_true, not_true_eq_false, decide_not]) h2
  obtain ⟨bz, sz, ρz, same1, same2⟩ := same
  rcases (by lia : way = 3 ∨ way = 4 ∨ way = 5 ∨ way = 6 ∨ way = 7 ∨ way = 8) with q | q | q | q | q | q
  · subst q
    by_cases h0 : (0 : Int) < (b.length : Int)
    · obtain ⟨b', s', ρ', h1, h2⟩ := own_way n base H hm z e h0
      exact fin ρ' (by simp only [s_law_changed_k17, s_law_changed_k16, lkp_some e.wa, lkp_some e.si, h0, h1, Qa, Qb, Qc, Qd, Qe, Qf, retS, nxt, asgN, asgT, Qg, Qh, Qi, Qj, Qk, Ql, Qm, Qn, ne_eq, binR, Qo, Qp, subI, subS, noneE, listD, tupD, Qq, Qr, callP, callQ, Qs, Qt, Qu, Qv, callLen, Qw, Qx, Qy, Qz, QA, QB, QC, QD, QE, QF, QG, QH, QI, QJ, QK, QL, QM, QN, QO, QP, QQ, QR, QS, tob, QT, notB, notV, QU, QV, QW, QX, QY, QZ, Q0, cond_true, cond_false, isR, Q1, Q2, Q3, Q4, Q5, isTup, isLis, isStr, isInt, isBoo, updTup, updAll, updName, Q6, Q7, Q8, Q9, Za, Zb, Zc, Zd, Ze, Zf, Zg, sz0, sz1, sz2, sz3, sz4, sz5, Zh, Zi, Zj, List.map_cons, List.map_nil, List.length_cons, List.length_nil, List.length_map, List.any_cons, List.any_nil, id, if_true, if_false, Bool.not_true, Bool.not_false, Bool.or_false, Bool.false_or, Bool.or_true, Bool.true_or, Bool.and_true, Bool.true_and, Bool.and_false, Bool.false_and, Option.map_some, Option.map_none, decide_true, decide_false, String.reduceEq, reduceIte, Nat.reduceAdd, Int.reduceLT, Int.reduceLE, Nat.reduceLeDiff, Bool.false_eq_true, reduceCtorEq, not_false_eq_true, not_true_eq_false, decide_not]) h2
    · exact fin ρz (by simp only [s_law_changed_k17, s_law_changed_k16, s_law_changed_k15, s_law_changed_k14, s_law_changed_k13, lkp_some e.wa, lkp_some e.si, h0, same1, Int.reduceEq, Qa, Qb, Qc, Qd, Qe, Qf, retS, nxt, asgN, asgT, Qg, Qh, Qi, Qj, Qk, Ql, Qm, Qn, ne_eq, binR, Qo, Qp, subI, subS, noneE, listD, tupD, Qq, Qr, callP, callQ, Qs, Qt, Qu, Qv, callLen, Qw, Qx, Qy, Qz, QA, QB, QC, QD, QE, QF, QG, QH, QI, QJ, QK, QL, QM, QN, QO, QP, QQ, QR, QS, tob, QT, notB, notV, QU, QV, QW, QX, QY, QZ, Q0, cond_true, cond_false, isR, Q1, Q2, Q3, Q4, Q5, isTup, isLis, isStr, isInt, isBoo, updTup, updAll, updName, Q6, Q7, Q8, Q9, Za, Zb, Zc, Zd, Ze, Zf, Zg, sz0, sz1, sz2, sz3, sz4, sz5, Zh, Zi, Zj, List.map_cons, List.map_nil, List.length_cons, List.length_nil, List.length_map, List.any_cons, List.any_nil, id, if_true, if_false, Bool.not_true, Bool.not_false, Bool.or_false, Bool.false_or, Bool.or_true, Bool.true_or, Bool.and_true, Bool.true_and, Bool.and_false, Bool.false_and, Option.map_some, Option.map_none, decide_true, decide_false, String.reduceEq, reduceIte, Nat.reduceAdd, Int.reduceLT, Int.reduceLE, Nat.reduceLeDiff, Bool.false_eq_true, reduceCtorEq, not_false_eq_true, not_true_eq_false, decide_not]) same2
  · subst q
    by_cases h0 : (0 : Int) < (b.length : Int)
    · obtain ⟨b', s', ρ', h1, h2⟩ := other_way n base H hm z e h0
      exact fin ρ' (by simp only [s_law_changed_k17, s_law_changed_k16, s_law_changed_k15, lkp_some e.wa, lkp_some e.si, h0, h1, Int.reduceEq, Qa, Qb, Qc, Qd, Qe, Qf, retS, nxt, asgN, asgT, Qg, Qh, Qi, Qj, Qk, Ql, Qm, Qn, ne_eq, binR, Qo, Qp, subI, subS, noneE, listD, tupD, Qq, Qr, callP, callQ, Qs, Qt, Qu, Qv, callLen, Qw, Qx, Qy, Qz, QA, QB, QC, QD, QE, QF, QG, QH, QI, QJ, QK, QL, QM, QN, QO, QP, QQ, QR, QS, tob, QT, notB, notV, QU, QV, QW, QX, QY, QZ, Q0, cond_true, cond_false, isR, Q1, Q2, Q3, Q4, Q5, isTup, isLis, isStr, isInt, isBoo, updTup, updAll, updName, Q6, Q7, Q8, Q9, Za, Zb, Zc, Zd, Ze, Zf, Zg, sz0, sz1, sz2, sz3, sz4, sz5, Zh, Zi, Zj, List.map_cons, List.map_nil, List.length_cons, List.length_nil, List.length_map, List.any_cons, List.any_nil, id, if_true, if_false, Bool.not_true, Bool.not_false, Bool.or_false, Bool.false_or, Bool.or_true, Bool.true_or, Bool.and_true, Bool.true_and, Bool.and_false, Bool.false_and, Option.map_some, Option.map_none, decide_true, decide_false, String.reduceEq, reduceIte, Nat.reduceAdd, Int.reduceLT, Int.reduceLE, Nat.reduceLeDiff, Bool.false_eq_true, reduceCtorEq, not_false_eq_true, not_true_eq_false, decide_not]) h2
    · exact fin ρz (by simp only [s_law_changed_k17, s_law_changed_k16, s_law_changed_k15, s_law_changed_k14, s_law_changed_k13, lkp_some e.wa, lkp_some e.si, h0, same1, Int.reduceEq, Qa, Qb, Qc, Qd, Qe, Qf, retS, nxt, asgN, asgT, Qg, Qh, Qi, Qj, Qk, Ql, Qm, Qn, ne_eq, binR, Qo, Qp, subI, subS, noneE, listD, tupD, Qq, Qr, callP, callQ, Qs, Qt, Qu, Qv, callLen, Qw, Qx, Qy, Qz, QA, QB, QC, QD, QE, QF, QG, QH, QI, QJ, QK, QL, QM, QN, QO, QP, QQ, QR, QS, tob, QT, notB, notV, QU, QV, QW, QX, QY, QZ, Q0, cond_true, cond_false, isR, Q1, Q2, Q3, Q4, Q5, isTup, isLis, isStr, isInt, isBoo, updTup, updAll, updName, Q6, Q7, Q8, Q9, Za, Zb, Zc, Zd, Ze, Zf, Zg, sz0, sz1, sz2, sz3, sz4, sz5, Zh, Zi, Zj, List.map_cons, List.map_nil, List.length_cons, List.length_nil, List.length_map, List.any_cons, List.any_nil, id, if_true, if_false, Bool.not_true, Bool.not_false, Bool.or_false, Bool.false_or, Bool.or_true, Bool.true_or, Bool.and_true, Bool.true_and, Bool.and_false, Bool.false_and, Option.map_some, Option.map_none, decide_true, decide_false, String.reduceEq, reduceIte, Nat.reduceAdd, Int.reduceLT, Int.reduceLE, Nat.reduceLeDiff, Bool.false_eq_true, reduceCtorEq, not_false_eq_true, not_true_eq_false, decide_not]) same2
  · subst q
    obtain ⟨b', s', ρ', h1, h2⟩ := crew_way (n+1) base H hm z e
    exact fin ρ' (by simp only [s_law_changed_k17, s_law_changed_k16, s_law_changed_k15, s_law_changed_k14, lkp_some e.wa, h1, Int.reduceEq, Qa, Qb, Qc, Qd, Qe, Qf, retS, nxt, asgN, asgT, Qg, Qh, Qi, Qj, Qk, Ql, Qm, Qn, ne_eq, binR, Qo, Qp, subI, subS, noneE, listD, tupD, Qq, Qr, callP, callQ, Qs, Qt, Qu, Qv, callLen, Qw, Qx, Qy, Qz, QA, QB, QC, QD, QE, QF, QG, QH, QI, QJ, QK, QL, QM, QN, QO, QP, QQ, QR, QS, tob, QT, notB, notV, QU, QV, QW, QX, QY, QZ, Q0, cond_true, cond_false, isR, Q1, Q2, Q3, Q4, Q5, isTup, isLis, isStr, isInt, isBoo, updTup, updAll, updName, Q6, Q7, Q8, Q9, Za, Zb, Zc, Zd, Ze, Zf, Zg, sz0, sz1, sz2, sz3, sz4, sz5, Zh, Zi, Zj, List.map_cons, List.map_nil, List.length_cons, List.length_nil, List.length_map, List.any_cons, List.any_nil, id, if_true, if_false, Bool.not_true, Bool.not_false, Bool.or_false, Bool.false_or, Bool.or_true, Bool.true_or, Bool.and_true, Bool.true_and, Bool.and_false, Bool.false_and, Option.map_some, Option.map_none, decide_true, decide_false, String.reduceEq, reduceIte, Nat.reduceAdd, Int.reduceLT, Int.reduceLE, Nat.reduceLeDiff, Bool.false_eq_true, reduceCtorEq, not_false_eq_true, not_true_eq_false, decide_not]) h2
  · subst q
    obtain ⟨b', s', ρ', h1, h2⟩ := more_way (n+1) base H hm z e
    exact fin ρ' (by simp only [s_law_changed_k17, s_law_changed_k16, s_law_changed_k15, s_law_changed_k14, s_law_changed_k13, lkp_some e.wa, h1, Int.reduceEq, Qa, Qb, Qc, Qd, Qe, Qf, retS, nxt, asgN, asgT, Qg, Qh, Qi, Qj, Qk, Ql, Qm, Qn, ne_eq, binR, Qo, Qp, subI, subS, noneE, listD, tupD, Qq, Qr, callP, callQ, Qs, Qt, Qu, Qv, callLen, Qw, Qx, Qy, Qz, QA, QB, QC, QD, QE, QF, QG, QH, QI, QJ, QK, QL, QM, QN, QO, QP, QQ, QR, QS, tob, QT, notB, notV, QU, QV, QW, QX, QY, QZ, Q0, cond_true, cond_false, isR, Q1, Q2, Q3, Q4, Q5, isTup, isLis, isStr, isInt, isBoo, updTup, updAll, updName, Q6, Q7, Q8, Q9, Za, Zb, Zc, Zd, Ze, Zf, Zg, sz0, sz1, sz2, sz3, sz4, sz5, Zh, Zi, Zj, List.map_cons, List.map_nil, List.length_cons, List.length_nil, List.length_map, List.any_cons, List.any_nil, id, if_true, if_false, Bool.not_true, Bool.not_false, Bool.or_false, Bool.false_or, Bool.or_true, Bool.true_or, Bool.and_true, Bool.true_and, Bool.and_false, Bool.false_and, Option.map_some, Option.map_none, decide_true, decide_false, String.reduceEq, reduceIte, Nat.reduceAdd, Int.reduceLT, Int.reduceLE, Nat.reduceLeDiff, Bool.false_eq_true, reduceCtorEq, not_false_eq_true, not_true_eq_false, decide_not]) h2
  · subst q
    exact fin ρz (by simp only [s_law_changed_k17, s_law_changed_k16, s_law_changed_k15, s_law_changed_k14, s_law_changed_k13, lkp_some e.wa, same1, Int.reduceEq, Qa, Qb, Qc, Qd, Qe, Qf, retS, nxt, asgN, asgT, Qg, Qh, Qi, Qj, Qk, Ql, Qm, Qn, ne_eq, binR, Qo, Qp, subI, subS, noneE, listD, tupD, Qq, Qr, callP, callQ, Qs, Qt, Qu, Qv, callLen, Qw, Qx, Qy, Qz, QA, QB, QC, QD, QE, QF, QG, QH, QI, QJ, QK, QL, QM, QN, QO, QP, QQ, QR, QS, tob, QT, notB, notV, QU, QV, QW, QX, QY, QZ, Q0, cond_true, cond_false, isR, Q1, Q2, Q3, Q4, Q5, isTup, isLis, isStr, isInt, isBoo, updTup, updAll, updName, Q6, Q7, Q8, Q9, Za, Zb, Zc, Zd, Ze, Zf, Zg, sz0, sz1, sz2, sz3, sz4, sz5, Zh, Zi, Zj, List.map_cons, List.map_nil, List.length_cons, List.length_nil, List.length_map, List.any_cons, List.any_nil, id, if_true, if_false, Bool.not_true, Bool.not_false, Bool.or_false, Bool.false_or, Bool.or_true, Bool.true_or, Bool.and_true, Bool.true_and, Bool.and_false, Bool.false_and, Option.map_some, Option.map_none, decide_true, decide_false, String.reduceEq, reduceIte, Nat.reduceAdd, Int.reduceLT, Int.reduceLE, Nat.reduceLeDiff, Bool.false_eq_true, reduceCtorEq, not_false_eq_true, not_true_eq_false, decide_not]) same2
  · subst q
    exact fin ρz (by simp only [s_law_changed_k17, s_law_changed_k16, s_law_changed_k15, s_law_changed_k14, s_law_changed_k13, lkp_some e.wa, same1, Int.reduceEq, Qa, Qb, Qc, Qd, Qe, Qf, retS, nxt, asgN, asgT, Qg, Qh, Qi, Qj, Qk, Ql, Qm, Qn, ne_eq, binR, Qo, Qp, subI, subS, noneE, listD, tupD, Qq, Qr, callP, callQ, Qs, Qt, Qu, Qv, callLen, Qw, Qx, Qy, Qz, QA, QB, QC, QD, QE, QF, QG, QH, QI, QJ, QK, QL, QM, QN, QO, QP, QQ, QR, QS, tob, QT, notB, notV, QU, QV, QW, QX, QY, QZ, Q0, cond_true, cond_false, isR, Q1, Q2, Q3, Q4, Q5, isTup, isLis, isStr, isInt, isBoo, updTup, updAll, updName, Q6, Q7, Q8, Q9, Za, Zb, Zc, Zd, Ze, Zf, Zg, sz0, sz1, sz2, sz3, sz4, sz5, Zh, Zi, Zj, List.map_cons, List.map_nil, List.length_cons, List.length_nil, List.length_map, List.any_cons, List.any_nil, id, if_true, if_false, Bool.not_true, Bool.not_false, Bool.or_false, Bool.false_or, Bool.or_true, Bool.true_or, Bool.and_true, Bool.true_and, Bool.and_false, Bool.false_and, Option.map_some, Option.map_none, decide_true, decide_false, String.reduceEq, reduceIte, Nat.reduceAdd, Int.reduceLT, Int.reduceLE, Nat.reduceLeDiff, Bool.false_eq_true, reduceCtorEq, not_false_eq_true, not_true_eq_false, decide_not]) same2
end
theorem cell_at_eval (n base : Nat) (ns : List Int) (k : Int) (H : HP) (h : 0 ≤ k) : callF CC (n+1) base "_law_cell_at" [.list (ns.map .int), .int k] H = some (.int (cellAt ns k), H) := by
  rw [g_law_cell_at]
  by_cases hk : k < (ns.length : Int)
  · have hk' : k.toNat < ns.length := by lia
    have hg : getIdx H (.list (ns.map .int)) (.int k) = some (.int (cellAt ns k)) := by
      rw [getIdx_of (xs := ns.map .int) rfl h (by simpa using hk)]
      simp [cellAt, hk, hk']
    simp only [s_law_cell_at, s_law_cell_at_body, s_law_cell_at_k1, s_law_cell_at_k2, hk, hg, Qa, Qb, Qc, Qd, Qe, Qf, retS, nxt, asgN, asgT, Qg, Qh, Qi, Qj, Qk, Ql, Qm, Qn, ne_eq, binR, Qo, Qp, subI, subS, noneE, listD, tupD, Qq, Qr, callP, callQ, Qs, Qt, Qu, Qv, callLen, Qw, Qx, Qy, Qz, QA, QB, QC, QD, QE, QF, QG, QH, QI, QJ, QK, QL, QM, QN, QO, QP, QQ, QR, QS, tob, QT, notB, notV, QU, QV, QW, QX, QY, QZ, Q0, cond_true, cond_false, isR, Q1, Q2, Q3, Q4, Q5, isTup, isLis, isStr, isInt, isBoo, updTup, updAll, updName, Q6, Q7, Q8, Q9, Za, Zb, Zc, Zd, Ze, Zf, Zg, sz0, sz1, sz2, sz3, sz4, sz5, Zh, Zi, Zj, List.map_cons, List.map_nil, List.length_cons, List.length_nil, List.length_map, List.any_cons, List.any_nil, id, if_true, if_false, Bool.not_true, Bool.not_false, Bool.or_false, Bool.false_or, Bool.or_true, Bool.true_or, Bool.and_true, Bool.true_and, Bool.and_false, Bool.false_and, Option.map_some, Option.map_none, decide_true, decide_false, String.reduceEq, reduceIte, Nat.reduceAdd, Int.reduceLT, Int.reduceLE, Nat.reduceLeDiff, Bool.false_eq_true, reduceCtorEq, not_false_eq_true, not_true_eq_false, decide_not]
  · have hc : cellAt ns k = 0 := by simp [cellAt, hk]
    simp only [s_law_cell_at, s_law_cell_at_body, s_law_cell_at_k1, s_law_cell_at_k2, hk, hc, Qa, Qb, Qc, Qd, Qe, Qf, retS, nxt, asgN, asgT, Qg, Qh, Qi, Qj, Qk, Ql, Qm, Qn, ne_eq, binR, Qo, Qp, subI, subS, noneE, listD, tupD, Qq, Qr, callP, callQ, Qs, Qt, Qu, Qv, callLen, Qw, Qx, Qy, Qz, QA, QB, QC, QD, QE, QF, QG, QH, QI, QJ, QK, QL, QM, QN, QO, QP, QQ, QR, QS, tob, QT, notB, notV, QU, QV, QW, QX, QY, QZ, Q0, cond_true, cond_false, isR, Q1, Q2, Q3, Q4, Q5, isTup, isLis, isStr, isInt, isBoo, updTup, updAll, updName, Q6, Q7, Q8, Q9, Za, Zb, Zc, Zd, Ze, Zf, Zg, sz0, sz1, sz2, sz3, sz4, sz5, Zh, Zi, Zj, List.map_cons, List.map_nil, List.length_cons, List.length_nil, List.length_map, List.any_cons, List.any_nil, id, if_true, if_false, Bool.not_true, Bool.not_false, Bool.or_false, Bool.false_or, Bool.or_true, Bool.true_or, Bool.and_true, Bool.true_and, Bool.and_false, Bool.false_and, Option.map_some, Option.map_none, decide_true, decide_false, String.reduceEq, reduceIte, Nat.reduceAdd, Int.reduceLT, Int.reduceLE, Nat.reduceLeDiff, Bool.false_eq_true, reduceCtorEq, not_false_eq_true, not_true_eq_false, decide_not]

/-! ### the plans -/
structure PbEnv (ρ : Loc) (ns : List Int) (first cell : Int) (size many b : Nat) : Prop where
  escript : ρ "_law_script" = some (.list (ns.map .int))
  efirst : ρ "_law_first" = some (.int first)
  ecell : ρ "_law_cell" = some (.int cell)
  emany : ρ "_law_many" = some (.int (many : Int))
  ebrood : ρ "_law_brood" = some (.ref (b + size))
  estarts : ρ "_law_starts" = some (.ref (b + size + 1 + many))

theorem PbEnv.up {ρ : Loc} {ns : List Int} {first cell : Int} {size many b : Nat} (e : PbEnv ρ ns first cell size many b) (v w : AV) : PbEnv (upd (upd ρ "_law_task" v) "_law_way" w) ns first cell size many b :=
  ⟨by simp only [e.escript, Qa, Qb, Qc, Qd, Qe, Qf, retS, nxt, asgN, asgT, Qg, Qh, Qi, Qj, Qk, Ql, Qm, Qn, ne_eq, binR, Qo, Qp, subI, subS, noneE, listD, tupD, Qq, Qr, callP, callQ, Qs, Qt, Qu, Qv, callLen, Qw, Qx, Qy, Qz, QA, QB, QC, QD, QE, QF, QG, QH, QI, QJ, QK, QL, QM, QN, QO, QP, QQ, QR, QS, tob, QT, notB, notV, QU, QV, QW, QX, QY, QZ, Q0, cond_true, cond_false, isR, Q1, Q2, Q3, Q4, Q5, isTup, isLis, isStr, isInt, isBoo, updTup, updAll, updName, Q6, Q7, Q8, Q9, Za, Zb, Zc, Zd, Ze, Zf, Zg, sz0, sz1, sz2, sz3, sz4, sz5, Zh, Zi, Zj, List.map_cons, List.map_nil, List.length_cons, List.length_nil, List.length_map, List.any_cons, List.any_nil, id, if_true, if_false, Bool.not_true, Bool.not_false, Bool.or_false, Bool.false_or, Bool.or_true, Bool.true_or, Bool.and_true, Bool.true_and, Bool.and_false, Bool.false_and, Option.map_some, Option.map_none, decide_true, decide_false, String.reduceEq, reduceIte, Nat.reduceAdd, Int.reduceLT, Int.reduceLE, Nat.reduceLeDiff, Bool.false_eq_true, reduceCtorEq, not_false_eq_true, not_true_eq_false, decide_not], by simp only [e.efirst, Qa, Qb, Qc, Qd, Qe, Qf, retS, nxt, asgN, asgT, Qg, Qh, Qi, Qj, Qk, Ql, Qm, Qn, ne_eq, binR, Qo, Qp, subI, subS, noneE, listD, tupD, Qq, Qr, callP, callQ, Qs, Qt, Qu, Qv, callLen, Qw, Qx, Qy, Qz, QA, QB, QC, QD, QE, QF, QG, QH, QI, QJ, QK, QL, QM, QN, QO, QP, QQ, QR, QS, tob, QT, notB, notV, QU, QV, QW, QX, QY, QZ, Q0, cond_true, cond_false, isR, Q1, Q2, Q3, Q4, Q5, isTup, isLis, isStr, isInt, isBoo, updTup, updAll, updName, Q6, Q7, Q8, Q9, Za, Zb, Zc, Zd, Ze, Zf, Zg, sz0, sz1, sz2, sz3, sz4, sz5, Zh, Zi, Zj, List.map_cons, List.map_nil, List.length_cons, List.length_nil, List.length_map, List.any_cons, List.any_nil, id, if_true, if_false, Bool.not_true, Bool.not_false, Bool.or_false, Bool.false_or, Bool.or_true, Bool.true_or, Bool.and_true, Bool.true_and, Bool.and_false, Bool.false_and, Option.map_some, Option.map_none, decide_true, decide_false, String.reduceEq, reduceIte, Nat.reduceAdd, Int.reduceLT, Int.reduceLE, Nat.reduceLeDiff, Bool.false_eq_true, reduceCtorEq, not_false_eq_true, not_true_eq_false, decide_not], by simp only [e.ecell, Qa, Qb, Qc, Qd, Qe, Qf, retS, nxt, asgN, asgT, Qg, Qh, Qi, Qj, Qk, Ql, Qm, Qn, ne_eq, binR, Qo, Qp, subI, subS, noneE, listD, tupD, Qq, Qr, callP, callQ, Qs, Qt, Qu, Qv, callLen, Qw, Qx, Qy, Qz, QA, QB, QC, QD, QE, QF, QG, QH, QI, QJ, QK, QL, QM, QN, QO, QP, QQ, QR, QS, tob, QT, notB, notV, QU, QV, QW, QX, QY, QZ, Q0, cond_true, cond_false, isR, Q1, Q2, Q3, Q4, Q5, isTup, isLis, isStr, isInt, isBoo, updTup, updAll, updName, Q6, Q7, Q8, Q9, Za, Zb, Zc, Zd, Ze, Zf, Zg, sz0, sz1, sz2, sz3, sz4, sz5, Zh, Zi, Zj, List.map_cons, List.map_nil, List.length_cons, List.length_nil, List.length_map, List.any_cons, List.any_nil, id, if_true, if_false, Bool.not_true, Bool.not_false, Bool.or_false, Bool.false_or, Bool.or_true, Bool.true_or, Bool.and_true, Bool.true_and, Bool.and_false, Bool.false_and, Option.map_some, Option.map_none, decide_true, decide_false, String.reduceEq, reduceIte, Nat.reduceAdd, Int.reduceLT, Int.reduceLE, Nat.reduceLeDiff, Bool.false_eq_true, reduceCtorEq, not_false_eq_true, not_true_eq_false, decide_not], by simp only [e.emany, Qa, Qb, Qc, Qd, Qe, Qf, retS, nxt, asgN, asgT, Qg, Qh, Qi, Qj, Qk, Ql, Qm, Qn, ne_eq, binR, Qo, Qp, subI, subS, noneE, listD, tupD, Qq, Qr, callP, callQ, Qs, Qt, Qu, Qv, callLen, Qw, Qx, Qy, Qz, QA, QB, QC, QD, QE, QF, QG, QH, QI, QJ, QK, QL, QM, QN, QO, QP, QQ, QR, QS, tob, QT, notB, notV, QU, QV, QW, QX, QY, QZ, Q0, cond_true, cond_false, isR, Q1, Q2, Q3, Q4, Q5, isTup, isLis, isStr, isInt, isBoo, updTup, updAll, updName, Q6, Q7, Q8, Q9, Za, Zb, Zc, Zd, Ze, Zf, Zg, sz0, sz1, sz2, sz3, sz4, sz5, Zh, Zi, Zj, List.map_cons, List.map_nil, List.length_cons, List.length_nil, List.length_map, List.any_cons, List.any_nil, id, if_true, if_false, Bool.not_true, Bool.not_false, Bool.or_false, Bool.false_or, Bool.or_true, Bool.true_or, Bool.and_true, Bool.true_and, Bool.and_false, Bool.false_and, Option.map_some, Option.map_none, decide_true, decide_false, String.reduceEq, reduceIte, Nat.reduceAdd, Int.reduceLT, Int.reduceLE, Nat.reduceLeDiff, Bool.false_eq_true, reduceCtorEq, not_false_eq_true, not_true_eq_false, decide_not], by simp only [e.ebrood, Qa, Qb, Qc, Qd, Qe, Qf, retS, nxt, asgN, asgT, Qg, Qh, Qi, Qj, Qk, Ql, Qm, Qn, ne_eq, binR, Qo, Qp, subI, subS, noneE, listD, tupD, Qq, Qr, callP, callQ, Qs, Qt, Qu, Qv, callLen, Qw, Qx, Qy, Qz, QA, QB, QC, QD, QE, QF, QG, QH, QI, QJ, QK, QL, QM, QN, QO, QP, QQ, QR, QS, tob, QT, notB, notV, QU, QV, QW, QX, QY, QZ, Q0, cond_true, cond_false, isR, Q1, Q2, Q3, Q4, Q5, isTup, isLis, isStr, isInt, isBoo, updTup, updAll, updName, Q6, Q7, Q8, Q9, Za, Zb, Zc, Zd, Ze, Zf, Zg, sz0, sz1, sz2, sz3, sz4, sz5, Zh, Zi, Zj, List.map_cons, List.map_nil, List.length_cons, List.length_nil, List.length_map, List.any_cons, List.any_nil, id, if_true, if_false, Bool.not_true, Bool.not_false, Bool.or_false, Bool.false_or, Bool.or_true, Bool.true_or, Bool.and_true, Bool.true_and, Bool.and_false, Bool.false_and, Option.map_some, Option.map_none, decide_true, decide_false, String.reduceEq, reduceIte, Nat.reduceAdd, Int.reduceLT, Int.reduceLE, Nat.reduceLeDiff, Bool.false_eq_true, reduceCtorEq, not_false_eq_true, not_true_eq_false, decide_not], by simp only [e.estarts, Qa, Qb, Qc, Qd, Qe, Qf, retS, nxt, asgN, asgT, Qg, Qh, Qi, Qj, Qk, Ql, Qm, Qn, ne_eq, binR, Qo, Qp, subI, subS, noneE, listD, tupD, Qq, Qr, callP, callQ, Qs, Qt, Qu, Qv, callLen, Qw, Qx, Qy, Qz, QA, QB, QC, QD, QE, QF, QG, QH, QI, QJ, QK, QL, QM, QN, QO, QP, QQ, QR, QS, tob, QT, notB, notV, QU, QV, QW, QX, QY, QZ, Q0, cond_true, cond_false, isR, Q1, Q2, Q3, Q4, Q5, isTup, isLis, isStr, isInt, isBoo, updTup, updAll, updName, Q6, Q7, Q8, Q9, Za, Zb, Zc, Zd, Ze, Zf, Zg, sz0, sz1, sz2, sz3, sz4, sz5, Zh, Zi, Zj, List.map_cons, List.map_nil, List.length_cons, List.length_nil, List.length_map, List.any_cons, List.any_nil, id, if_true, if_false, Bool.not_true, Bool.not_false, Bool.or_false, Bool.false_or, Bool.or_true, Bool.true_or, Bool.and_true, Bool.true_and, Bool.and_false, Bool.false_and, Option.map_some, Option.map_none, decide_true, decide_false, String.reduceEq, reduceIte, Nat.reduceAdd, Int.reduceLT, Int.reduceLE, Nat.reduceLeDiff, Bool.false_eq_true, reduceCtorEq, not_false_eq_true, not_true_eq_false, decide_not]⟩

theorem plan_step (n : Nat) {ns : List Int} {first cell : Int} {size many i : Nat} {H : HP} {ρ : Loc} {brood starts : List (List Int)} (e : PbEnv ρ ns first cell size many H.length) (hf : 0 ≤ first) (hi : i < size) (hm : 0 < many) (hsz : size ≤ 1000)
    (p : PlanOk size many i brood starts) : ∃ ρ' brood' starts', s_law_plan_by_b11 (callF CC (n + 1)) H.length (upd ρ "_law_task" (.int (i : Int))) (tab (tab H brood) starts) = some (.next, ρ', tab (tab H brood') starts') ∧ PbEnv ρ' ns first cell size many H.length ∧ PlanOk size many (i + 1) brood' starts' := by
  have l1 : ∀ H, lkp ρ "_law_script" H = some (.list (ns.map .int), H) := fun H => lkp_some e.escript
  have l2 : ∀ H, lkp ρ "_law_first" H = some (.int first, H) := fun H => lkp_some e.efirst
  have l3 : ∀ H, lkp ρ "_law_cell" H = some (.int cell, H) := fun H => lkp_some e.ecell
  have l4 : ∀ H, lkp ρ "_law_many" H = some (.int (many : Int), H) := fun H => lkp_some e.emany
  have l5 : ∀ G, lkp ρ "_law_brood" G = some (.ref (H.length + size), G) := fun G => lkp_some e.ebrood
  have l6 : ∀ G, lkp ρ "_law_starts" G = some (.ref (H.length + size + 1 + many), G) := fun G => lkp_some e.estarts
  have c1 := cell_at_eval n H.length ns (first + 1 + (i : Int)) (tab (tab H brood) starts) (by lia)
  have s1 : small (i : Int) = true := small_of (by lia) (by lia)
  have s2 : small (cell / 30000 % 50) = true := small_of (by lia) (by lia)
  have m1 : ∀ G, binV .Mult (.int (i : Int)) (.int (cell / 30000 % 50)) G = some (.int ((i : Int) * (cell / 30000 % 50))) := fun G => bin_mul s1 s2
  generalize cellAt ns (first + 1 + (i : Int)) = way0 at c1
  have hw : ∀ way, way = way0 + (i : Int) * (cell / 30000 % 50) → ∃ ρ' brood' starts', s_law_plan_by_k10 (callF CC (n + 1)) H.length (upd (upd ρ "_law_task" (.int (i : Int))) "_law_way" (.int way)) (tab (tab H brood) starts) = some (.next, ρ', tab (tab H brood') starts') ∧ PbEnv ρ' ns first cell size many H.length ∧ PlanOk size many (i + 1) brood' starts' := by
    intro way _
    have e2 := e.up (.int (i : Int)) (.int way)
    have gB : ∀ j : Nat, j < size → getIdx (tab (tab H brood) starts) (.ref (H.length + size)) (.int (j : Int)) = some (.ref (H.length + j)) := fun j hj => by
      have := tabs_list (H := H) (b := brood) (s := starts)
      rw [p.lb] at this
      exact getIdx_nat (itemsOf_ref this) (refsFrom_get hj)
    have gS : ∀ j : Nat, j < many → getIdx (tab (tab H brood) starts) (.ref (H.length + size + 1 + many)) (.int (j : Int)) = some (.ref ((tab H brood).length + j)) := fun j hj => by
      have := tab_list0 (H := tab H brood) (s := starts)
      rw [p.ls] at this
      have hl : (tab H brood).length + many = H.length + size + 1 + many := by rw [tab_len, p.lb]
      rw [hl] at this
      exact getIdx_nat (itemsOf_ref this) (refsFrom_get hj)
    by_cases h1 : way % 5 < 2 ∧ 0 < (i : Int)
    · obtain ⟨h1, h0⟩ := h1
      obtain ⟨j, hj⟩ := Int.eq_ofNat_of_zero_le (Int.emod_nonneg (way / 5) (by lia : (i : Int) ≠ 0))
      have hlt := Int.emod_lt_of_pos (way / 5) h0
      have hji : j < i := by lia
      have hjb : j < brood.length := by rw [p.lb]; lia
      have hr : brood[j]? = some brood[j] := List.getElem?_eq_getElem hjb
      have hmod : binV .Mod (.int (way / 5)) (.int (i : Int)) (tab (tab H brood) starts) = some (.int (j : Int)) := by rw [bin_mod h0, hj]
      refine ⟨upd (upd ρ "_law_task" (.int (i : Int))) "_law_way" (.int way), brood.set j (brood[j] ++ [(i : Int)]), starts, ?_, e2, p.brood hr hji (List.perm_append_singleton _ _)⟩
      simp only [s_law_plan_by_k10, h1, h0, bin_mod, bin_div, Qa, Qb, Qc, Qd, Qe, Qf, retS, nxt, asgN, asgT, Qg, Qh, Qi, Qj, Qk, Ql, Qm, Qn, ne_eq, binR, Qo, Qp, subI, subS, noneE, listD, tupD, Qq, Qr, callP, callQ, Qs, Qt, Qu, Qv, callLen, Qw, Qx, Qy, Qz, QA, QB, QC, QD, QE, QF, QG, QH, QI, QJ, QK, QL, QM, QN, QO, QP, QQ, QR, QS, tob, QT, notB, notV, QU, QV, QW, QX, QY, QZ, Q0, cond_true, cond_false, isR, Q1, Q2, Q3, Q4, Q5, isTup, isLis, isStr, isInt, isBoo, updTup, updAll, updName, Q6, Q7, Q8, Q9, Za, Zb, Zc, Zd, Ze, Zf, Zg, sz0, sz1, sz2, sz3, sz4, sz5, Zh, Zi, Zj, List.map_cons, List.map_nil, List.length_cons, List.length_nil, List.length_map, List.any_cons, List.any_nil, id, if_true, if_false, Bool.not_true, Bool.not_false, Bool.or_false, Bool.false_or, Bool.or_true, Bool.true_or, Bool.and_true, Bool.true_and, Bool.and_false, Bool.false_and, Option.map_some, Option.map_none, decide_true, decide_false, String.reduceEq, reduceIte, Nat.reduceAdd, Int.reduceLT, Int.reduceLE, Nat.reduceLeDiff, Bool.false_eq_true, reduceCtorEq, not_false_eq_true, not_true_eq_false, decide_not, s_law_plan_by_k5]
      rw [meth_append (l := brood[j]) (t := (i : Int)) (k := H.length + j) ?_ ?_ (tabs_row hr) ?_]
      · simp only [tabs_set hjb, Qa, Qb, Qc, Qd, Qe, Qf, retS, nxt, asgN, asgT, Qg, Qh, Qi, Qj, Qk, Ql, Qm, Qn, ne_eq, binR, Qo, Qp, subI, subS, noneE, listD, tupD, Qq, Qr, callP, callQ, Qs, Qt, Qu, Qv, callLen, Qw, Qx, Qy, Qz, QA, QB, QC, QD, QE, QF, QG, QH, QI, QJ, QK, QL, QM, QN, QO, QP, QQ, QR, QS, tob, QT, notB, notV, QU, QV, QW, QX, QY, QZ, Q0, cond_true, cond_false, isR, Q1, Q2, Q3, Q4, Q5, isTup, isLis, isStr, isInt, isBoo, updTup, updAll, updName, Q6, Q7, Q8, Q9, Za, Zb, Zc, Zd, Ze, Zf, Zg, sz0, sz1, sz2, sz3, sz4, sz5, Zh, Zi, Zj, List.map_cons, List.map_nil, List.length_cons, List.length_nil, List.length_map, List.any_cons, List.any_nil, id, if_true, if_false, Bool.not_true, Bool.not_false, Bool.or_false, Bool.false_or, Bool.or_true, Bool.true_or, Bool.and_true, Bool.true_and, Bool.and_false, Bool.false_and, Option.map_some, Option.map_none, decide_true, decide_false, String.reduceEq, reduceIte, Nat.reduceAdd, Int.reduceLT, Int.reduceLE, Nat.reduceLeDiff, Bool.false_eq_true, reduceCtorEq, not_false_eq_true, not_true_eq_false, decide_not]
      · simp only [l5, hmod, hj, gB j (by lia), bin_div, Qa, Qb, Qc, Qd, Qe, Qf, retS, nxt, asgN, asgT, Qg, Qh, Qi, Qj, Qk, Ql, Qm, Qn, ne_eq, binR, Qo, Qp, subI, subS, noneE, listD, tupD, Qq, Qr, callP, callQ, Qs, Qt, Qu, Qv, callLen, Qw, Qx, Qy, Qz, QA, QB, QC, QD, QE, QF, QG, QH, QI, QJ, QK, QL, QM, QN, QO, QP, QQ, QR, QS, tob, QT, notB, notV, QU, QV, QW, QX, QY, QZ, Q0, cond_true, cond_false, isR, Q1, Q2, Q3, Q4, Q5, isTup, isLis, isStr, isInt, isBoo, updTup, updAll, updName, Q6, Q7, Q8, Q9, Za, Zb, Zc, Zd, Ze, Zf, Zg, sz0, sz1, sz2, sz3, sz4, sz5, Zh, Zi, Zj, List.map_cons, List.map_nil, List.length_cons, List.length_nil, List.length_map, List.any_cons, List.any_nil, id, if_true, if_false, Bool.not_true, Bool.not_false, Bool.or_false, Bool.false_or, Bool.or_true, Bool.true_or, Bool.and_true, Bool.true_and, Bool.and_false, Bool.false_and, Option.map_some, Option.map_none, decide_true, decide_false, String.reduceEq, reduceIte, Nat.reduceAdd, Int.reduceLT, Int.reduceLE, Nat.reduceLeDiff, Bool.false_eq_true, reduceCtorEq, not_false_eq_true, not_true_eq_false, decide_not]
      · simp only [Qa, Qb, Qc, Qd, Qe, Qf, retS, nxt, asgN, asgT, Qg, Qh, Qi, Qj, Qk, Ql, Qm, Qn, ne_eq, binR, Qo, Qp, subI, subS, noneE, listD, tupD, Qq, Qr, callP, callQ, Qs, Qt, Qu, Qv, callLen, Qw, Qx, Qy, Qz, QA, QB, QC, QD, QE, QF, QG, QH, QI, QJ, QK, QL, QM, QN, QO, QP, QQ, QR, QS, tob, QT, notB, notV, QU, QV, QW, QX, QY, QZ, Q0, cond_true, cond_false, isR, Q1, Q2, Q3, Q4, Q5, isTup, isLis, isStr, isInt, isBoo, updTup, updAll, updName, Q6, Q7, Q8, Q9, Za, Zb, Zc, Zd, Ze, Zf, Zg, sz0, sz1, sz2, sz3, sz4, sz5, Zh, Zi, Zj, List.map_cons, List.map_nil, List.length_cons, List.length_nil, List.length_map, List.any_cons, List.any_nil, id, if_true, if_false, Bool.not_true, Bool.not_false, Bool.or_false, Bool.false_or, Bool.or_true, Bool.true_or, Bool.and_true, Bool.true_and, Bool.and_false, Bool.false_and, Option.map_some, Option.map_none, decide_true, decide_false, String.reduceEq, reduceIte, Nat.reduceAdd, Int.reduceLT, Int.reduceLE, Nat.reduceLeDiff, Bool.false_eq_true, reduceCtorEq, not_false_eq_true, not_true_eq_false, decide_not]
      · have := (p.br j _ hr).1; unfold sizeMax; lia
    · have hn1 : (decide (way % 5 < 2) && decide (0 < (i : Int))) = false := by
        simp only [Bool.and_eq_false_iff, decide_eq_false_iff_not]
        by_cases q : way % 5 < 2
        · right; intro q2; exact h1 ⟨q, q2⟩
        · left; exact q
      by_cases h2 : way % 5 = 2 ∧ 0 < (i : Int)
      · obtain ⟨h2, h0⟩ := h2
        have hn : ¬ way % 5 < 2 := by lia
        have hjb : i - 1 < brood.length := by rw [p.lb]; lia
        have hr : brood[i - 1]? = some brood[i - 1] := List.getElem?_eq_getElem hjb
        have hsub : (i : Int) - 1 = ((i - 1 : Nat) : Int) := by lia
        refine ⟨upd (upd ρ "_law_task" (.int (i : Int))) "_law_way" (.int way), brood.set (i - 1) ((i : Int) :: brood[i - 1]), starts, ?_, e2, p.brood hr (by lia) (List.Perm.refl _)⟩
        simp only [s_law_plan_by_k10, s_law_plan_by_k9, hn, h2, h0, bin_mod, bin_div, Qa, Qb, Qc, Qd, Qe, Qf, retS, nxt, asgN, asgT, Qg, Qh, Qi, Qj, Qk, Ql, Qm, Qn, ne_eq, binR, Qo, Qp, subI, subS, noneE, listD, tupD, Qq, Qr, callP, callQ, Qs, Qt, Qu, Qv, callLen, Qw, Qx, Qy, Qz, QA, QB, QC, QD, QE, QF, QG, QH, QI, QJ, QK, QL, QM, QN, QO, QP, QQ, QR, QS, tob, QT, notB, notV, QU, QV, QW, QX, QY, QZ, Q0, cond_true, cond_false, isR, Q1, Q2, Q3, Q4, Q5, isTup, isLis, isStr, isInt, isBoo, updTup, updAll, updName, Q6, Q7, Q8, Q9, Za, Zb, Zc, Zd, Ze, Zf, Zg, sz0, sz1, sz2, sz3, sz4, sz5, Zh, Zi, Zj, List.map_cons, List.map_nil, List.length_cons, List.length_nil, List.length_map, List.any_cons, List.any_nil, id, if_true, if_false, Bool.not_true, Bool.not_false, Bool.or_false, Bool.false_or, Bool.or_true, Bool.true_or, Bool.and_true, Bool.true_and, Bool.and_false, Bool.false_and, Option.map_some, Option.map_none, decide_true, decide_false, String.reduceEq, reduceIte, Nat.reduceAdd, Int.reduceLT, Int.reduceLE, Nat.reduceLeDiff, Bool.false_eq_true, reduceCtorEq, not_false_eq_true, not_true_eq_false, decide_not, s_law_plan_by_k6]
        rw [meth_insert (l := brood[i - 1]) (t := (i : Int)) (k := H.length + (i - 1)) ?_ ?_ (tabs_row hr) ?_]
        · simp only [tabs_set hjb, Qa, Qb, Qc, Qd, Qe, Qf, retS, nxt, asgN, asgT, Qg, Qh, Qi, Qj, Qk, Ql, Qm, Qn, ne_eq, binR, Qo, Qp, subI, subS, noneE, listD, tupD, Qq, Qr, callP, callQ, Qs, Qt, Qu, Qv, callLen, Qw, Qx, Qy, Qz, QA, QB, QC, QD, QE, QF, QG, QH, QI, QJ, QK, QL, QM, QN, QO, QP, QQ, QR, QS, tob, QT, notB, notV, QU, QV, QW, QX, QY, QZ, Q0, cond_true, cond_false, isR, Q1, Q2, Q3, Q4, Q5, isTup, isLis, isStr, isInt, isBoo, updTup, updAll, updName, Q6, Q7, Q8, Q9, Za, Zb, Zc, Zd, Ze, Zf, Zg, sz0, sz1, sz2, sz3, sz4, sz5, Zh, Zi, Zj, List.map_cons, List.map_nil, List.length_cons, List.length_nil, List.length_map, List.any_cons, List.any_nil, id, if_true, if_false, Bool.not_true, Bool.not_false, Bool.or_false, Bool.false_or, Bool.or_true, Bool.true_or, Bool.and_true, Bool.true_and, Bool.and_false, Bool.false_and, Option.map_some, Option.map_none, decide_true, decide_false, String.reduceEq, reduceIte, Nat.reduceAdd, Int.reduceLT, Int.reduceLE, Nat.reduceLeDiff, Bool.false_eq_true, reduceCtorEq, not_false_eq_true, not_true_eq_false, decide_not]
        · simp only [l5, hsub, gB (i - 1) (by lia), Qa, Qb, Qc, Qd, Qe, Qf, retS, nxt, asgN, asgT, Qg, Qh, Qi, Qj, Qk, Ql, Qm, Qn, ne_eq, binR, Qo, Qp, subI, subS, noneE, listD, tupD, Qq, Qr, callP, callQ, Qs, Qt, Qu, Qv, callLen, Qw, Qx, Qy, Qz, QA, QB, QC, QD, QE, QF, QG, QH, QI, QJ, QK, QL, QM, QN, QO, QP, QQ, QR, QS, tob, QT, notB, notV, QU, QV, QW, QX, QY, QZ, Q0, cond_true, cond_false, isR, Q1, Q2, Q3, Q4, Q5, isTup, isLis, isStr, isInt, isBoo, updTup, updAll, updName, Q6, Q7, Q8, Q9, Za, Zb, Zc, Zd, Ze, Zf, Zg, sz0, sz1, sz2, sz3, sz4, sz5, Zh, Zi, Zj, List.map_cons, List.map_nil, List.length_cons, List.length_nil, List.length_map, List.any_cons, List.any_nil, id, if_true, if_false, Bool.not_true, Bool.not_false, Bool.or_false, Bool.false_or, Bool.or_true, Bool.true_or, Bool.and_true, Bool.true_and, Bool.and_false, Bool.false_and, Option.map_some, Option.map_none, decide_true, decide_false, String.reduceEq, reduceIte, Nat.reduceAdd, Int.reduceLT, Int.reduceLE, Nat.reduceLeDiff, Bool.false_eq_true, reduceCtorEq, not_false_eq_true, not_true_eq_false, decide_not]
        · simp only [Qa, Qb, Qc, Qd, Qe, Qf, retS, nxt, asgN, asgT, Qg, Qh, Qi, Qj, Qk, Ql, Qm, Qn, ne_eq, binR, Qo, Qp, subI, subS, noneE, listD, tupD, Qq, Qr, callP, callQ, Qs, Qt, Qu, Qv, callLen, Qw, Qx, Qy, Qz, QA, QB, QC, QD, QE, QF, QG, QH, QI, QJ, QK, QL, QM, QN, QO, QP, QQ, QR, QS, tob, QT, notB, notV, QU, QV, QW, QX, QY, QZ, Q0, cond_true, cond_false, isR, Q1, Q2, Q3, Q4, Q5, isTup, isLis, isStr, isInt, isBoo, updTup, updAll, updName, Q6, Q7, Q8, Q9, Za, Zb, Zc, Zd, Ze, Zf, Zg, sz0, sz1, sz2, sz3, sz4, sz5, Zh, Zi, Zj, List.map_cons, List.map_nil, List.length_cons, List.length_nil, List.length_map, List.any_cons, List.any_nil, id, if_true, if_false, Bool.not_true, Bool.not_false, Bool.or_false, Bool.false_or, Bool.or_true, Bool.true_or, Bool.and_true, Bool.true_and, Bool.and_false, Bool.false_and, Option.map_some, Option.map_none, decide_true, decide_false, String.reduceEq, reduceIte, Nat.reduceAdd, Int.reduceLT, Int.reduceLE, Nat.reduceLeDiff, Bool.false_eq_true, reduceCtorEq, not_false_eq_true, not_true_eq_false, decide_not]
        · have := (p.br (i - 1) _ hr).1; unfold sizeMax; lia
      · have t1 : ∀ G, boolB .And [(fun H => tob (bnd (binR .Mod (fun H => some (AV.int way, H)) (fun H => some (AV.int 5, H)) H) (fun a H => cmpA a [.Lt] [(fun H => some (AV.int 2, H))] H))), (fun H => tob (bnd (some (AV.int (i : Int), H)) (fun a H => cmpA a [.Gt] [(fun H => some (AV.int 0, H))] H)))] G = some (false, G) := by
          intro G
          by_cases q : way % 5 < 2
          · have : ¬ 0 < (i : Int) := fun q2 => h1 ⟨q, q2⟩
            simp only [q, this, bin_mod, Qa, Qb, Qc, Qd, Qe, Qf, retS, nxt, asgN, asgT, Qg, Qh, Qi, Qj, Qk, Ql, Qm, Qn, ne_eq, binR, Qo, Qp, subI, subS, noneE, listD, tupD, Qq, Qr, callP, callQ, Qs, Qt, Qu, Qv, callLen, Qw, Qx, Qy, Qz, QA, QB, QC, QD, QE, QF, QG, QH, QI, QJ, QK, QL, QM, QN, QO, QP, QQ, QR, QS, tob, QT, notB, notV, QU, QV, QW, QX, QY, QZ, Q0, cond_true, cond_false, isR, Q1, Q2, Q3, Q4, Q5, isTup, isLis, isStr, isInt, isBoo, updTup, updAll, updName, Q6, Q7, Q8, Q9, Za, Zb, Zc, Zd, Ze, Zf, Zg, sz0, sz1, sz2, sz3, sz4, sz5, Zh, Zi, Zj, List.map_cons, List.map_nil, List.length_cons, List.length_nil, List.length_map, List.any_cons, List.any_nil, id, if_true, if_false, Bool.not_true, Bool.not_false, Bool.or_false, Bool.false_or, Bool.or_true, Bool.true_or, Bool.and_true, Bool.true_and, Bool.and_false, Bool.false_and, Option.map_some, Option.map_none, decide_true, decide_false, String.reduceEq, reduceIte, Nat.reduceAdd, Int.reduceLT, Int.reduceLE, Nat.reduceLeDiff, Bool.false_eq_true, reduceCtorEq, not_false_eq_true, not_true_eq_false, decide_not]
          · simp only [q, bin_mod, Qa, Qb, Qc, Qd, Qe, Qf, retS, nxt, asgN, asgT, Qg, Qh, Qi, Qj, Qk, Ql, Qm, Qn, ne_eq, binR, Qo, Qp, subI, subS, noneE, listD, tupD, Qq, Qr, callP, callQ, Qs, Qt, Qu, Qv, callLen, Qw, Qx, Qy, Qz, QA, QB, QC, QD, QE, QF, QG, QH, QI, QJ, QK, QL, QM, QN, QO, QP, QQ, QR, QS, tob, QT, notB, notV, QU, QV, QW, QX, QY, QZ, Q0, cond_true, cond_false, isR, Q1, Q2, Q3, Q4, Q5, isTup, isLis, isStr, isInt, isBoo, updTup, updAll, updName, Q6, Q7, Q8, Q9, Za, Zb, Zc, Zd, Ze, Zf, Zg, sz0, sz1, sz2, sz3, sz4, sz5, Zh, Zi, Zj, List.map_cons, List.map_nil, List.length_cons, List.length_nil, List.length_map, List.any_cons, List.any_nil, id, if_true, if_false, Bool.not_true, Bool.not_false, Bool.or_false, Bool.false_or, Bool.or_true, Bool.true_or, Bool.and_true, Bool.true_and, Bool.and_false, Bool.false_and, Option.map_some, Option.map_none, decide_true, decide_false, String.reduceEq, reduceIte, Nat.reduceAdd, Int.reduceLT, Int.reduceLE, Nat.reduceLeDiff, Bool.false_eq_true, reduceCtorEq, not_false_eq_true, not_true_eq_false, decide_not]
        have t2 : ∀ G, boolB .And [(fun H => tob (bnd (binR .Mod (fun H => some (AV.int way, H)) (fun H => some (AV.int 5, H)) H) (fun a H => cmpA a [.Eq] [(fun H => some (AV.int 2, H))] H))), (fun H => tob (bnd (some (AV.int (i : Int), H)) (fun a H => cmpA a [.Gt] [(fun H => some (AV.int 0, H))] H)))] G = some (false, G) := by
          intro G
          by_cases q : way % 5 = 2
          · have : ¬ 0 < (i : Int) := fun q2 => h2 ⟨q, q2⟩
            simp only [q, this, bin_mod, Qa, Qb, Qc, Qd, Qe, Qf, retS, nxt, asgN, asgT, Qg, Qh, Qi, Qj, Qk, Ql, Qm, Qn, ne_eq, binR, Qo, Qp, subI, subS, noneE, listD, tupD, Qq, Qr, callP, callQ, Qs, Qt, Qu, Qv, callLen, Qw, Qx, Qy, Qz, QA, QB, QC, QD, QE, QF, QG, QH, QI, QJ, QK, QL, QM, QN, QO, QP, QQ, QR, QS, tob, QT, notB, notV, QU, QV, QW, QX, QY, QZ, Q0, cond_true, cond_false, isR, Q1, Q2, Q3, Q4, Q5, isTup, isLis, isStr, isInt, isBoo, updTup, updAll, updName, Q6, Q7, Q8, Q9, Za, Zb, Zc, Zd, Ze, Zf, Zg, sz0, sz1, sz2, sz3, sz4, sz5, Zh, Zi, Zj, List.map_cons, List.map_nil, List.length_cons, List.length_nil, List.length_map, List.any_cons, List.any_nil, id, if_true, if_false, Bool.not_true, Bool.not_false, Bool.or_false, Bool.false_or, Bool.or_true, Bool.true_or, Bool.and_true, Bool.true_and, Bool.and_false, Bool.false_and, Option.map_some, Option.map_none, decide_true, decide_false, String.reduceEq, reduceIte, Nat.reduceAdd, Int.reduceLT, Int.reduceLE, Nat.reduceLeDiff, Bool.false_eq_true, reduceCtorEq, not_false_eq_true, not_true_eq_false, decide_not]
          · simp only [q, bin_mod, Qa, Qb, Qc, Qd, Qe, Qf, retS, nxt, asgN, asgT, Qg, Qh, Qi, Qj, Qk, Ql, Qm, Qn, ne_eq, binR, Qo, Qp, subI, subS, noneE, listD, tupD, Qq, Qr, callP, callQ, Qs, Qt, Qu, Qv, callLen, Qw, Qx, Qy, Qz, QA, QB, QC, QD, QE, QF, QG, QH, QI, QJ, QK, QL, QM, QN, QO, QP, QQ, QR, QS, tob, QT, notB, notV, QU, QV, QW, QX, QY, QZ, Q0, cond_true, cond_false, isR, Q1, Q2, Q3, Q4, Q5, isTup, isLis, isStr, isInt, isBoo, updTup, updAll, updName, Q6, Q7, Q8, Q9, Za, Zb, Zc, Zd, Ze, Zf, Zg, sz0, sz1, sz2, sz3, sz4, sz5, Zh, Zi, Zj, List.map_cons, List.map_nil, List.length_cons, List.length_nil, List.length_map, List.any_cons, List.any_nil, id, if_true, if_false, Bool.not_true, Bool.not_false, Bool.or_false, Bool.false_or, Bool.or_true, Bool.true_or, Bool.and_true, Bool.true_and, Bool.and_false, Bool.false_and, Option.map_some, Option.map_none, decide_true, decide_false, String.reduceEq, reduceIte, Nat.reduceAdd, Int.reduceLT, Int.reduceLE, Nat.reduceLeDiff, Bool.false_eq_true, reduceCtorEq, not_false_eq_true, not_true_eq_false, decide_not]
        have k1 : ∀ G, lkp (upd (upd ρ "_law_task" (.int (i : Int))) "_law_way" (.int way)) "_law_way" G = some (.int way, G) := fun G => by simp only [Qa, Qb, Qc, Qd, Qe, Qf, retS, nxt, asgN, asgT, Qg, Qh, Qi, Qj, Qk, Ql, Qm, Qn, ne_eq, binR, Qo, Qp, subI, subS, noneE, listD, tupD, Qq, Qr, callP, callQ, Qs, Qt, Qu, Qv, callLen, Qw, Qx, Qy, Qz, QA, QB, QC, QD, QE, QF, QG, QH, QI, QJ, QK, QL, QM, QN, QO, QP, QQ, QR, QS, tob, QT, notB, notV, QU, QV, QW, QX, QY, QZ, Q0, cond_true, cond_false, isR, Q1, Q2, Q3, Q4, Q5, isTup, isLis, isStr, isInt, isBoo, updTup, updAll, updName, Q6, Q7, Q8, Q9, Za, Zb, Zc, Zd, Ze, Zf, Zg, sz0, sz1, sz2, sz3, sz4, sz5, Zh, Zi, Zj, List.map_cons, List.map_nil, List.length_cons, List.length_nil, List.length_map, List.any_cons, List.any_nil, id, if_true, if_false, Bool.not_true, Bool.not_false, Bool.or_false, Bool.false_or, Bool.or_true, Bool.true_or, Bool.and_true, Bool.true_and, Bool.and_false, Bool.false_and, Option.map_some, Option.map_none, decide_true, decide_false, String.reduceEq, reduceIte, Nat.reduceAdd, Int.reduceLT, Int.reduceLE, Nat.reduceLeDiff, Bool.false_eq_true, reduceCtorEq, not_false_eq_true, not_true_eq_false, decide_not]
        have k2 : ∀ G, lkp (upd (upd ρ "_law_task" (.int (i : Int))) "_law_way" (.int way)) "_law_task" G = some (.int (i : Int), G) := fun G => by simp only [Qa, Qb, Qc, Qd, Qe, Qf, retS, nxt, asgN, asgT, Qg, Qh, Qi, Qj, Qk, Ql, Qm, Qn, ne_eq, binR, Qo, Qp, subI, subS, noneE, listD, tupD, Qq, Qr, callP, callQ, Qs, Qt, Qu, Qv, callLen, Qw, Qx, Qy, Qz, QA, QB, QC, QD, QE, QF, QG, QH, QI, QJ, QK, QL, QM, QN, QO, QP, QQ, QR, QS, tob, QT, notB, notV, QU, QV, QW, QX, QY, QZ, Q0, cond_true, cond_false, isR, Q1, Q2, Q3, Q4, Q5, isTup, isLis, isStr, isInt, isBoo, updTup, updAll, updName, Q6, Q7, Q8, Q9, Za, Zb, Zc, Zd, Ze, Zf, Zg, sz0, sz1, sz2, sz3, sz4, sz5, Zh, Zi, Zj, List.map_cons, List.map_nil, List.length_cons, List.length_nil, List.length_map, List.any_cons, List.any_nil, id, if_true, if_false, Bool.not_true, Bool.not_false, Bool.or_false, Bool.false_or, Bool.or_true, Bool.true_or, Bool.and_true, Bool.true_and, Bool.and_false, Bool.false_and, Option.map_some, Option.map_none, decide_true, decide_false, String.reduceEq, reduceIte, Nat.reduceAdd, Int.reduceLT, Int.reduceLE, Nat.reduceLeDiff, Bool.false_eq_true, reduceCtorEq, not_false_eq_true, not_true_eq_false, decide_not]
        by_cases h3 : way % 25 = 23
        · refine ⟨upd (upd ρ "_law_task" (.int (i : Int))) "_law_way" (.int way), brood, starts, ?_, e2, p.skip⟩
          unfold s_law_plan_by_k10 s_law_plan_by_k9 s_law_plan_by_k8
          simp only [k1, k2]
          simp only [t1, t2]
          simp only [h3, bin_mod, Qa, Qb, Qc, Qd, Qe, Qf, retS, nxt, asgN, asgT, Qg, Qh, Qi, Qj, Qk, Ql, Qm, Qn, ne_eq, binR, Qo, Qp, subI, subS, noneE, listD, tupD, Qq, Qr, callP, callQ, Qs, Qt, Qu, Qv, callLen, Qw, Qx, Qy, Qz, QA, QB, QC, QD, QE, QF, QG, QH, QI, QJ, QK, QL, QM, QN, QO, QP, QQ, QR, QS, tob, QT, notB, notV, QU, QV, QW, QX, QY, QZ, Q0, cond_true, cond_false, isR, Q1, Q2, Q3, Q4, Q5, isTup, isLis, isStr, isInt, isBoo, updTup, updAll, updName, Q6, Q7, Q8, Q9, Za, Zb, Zc, Zd, Ze, Zf, Zg, sz0, sz1, sz2, sz3, sz4, sz5, Zh, Zi, Zj, List.map_cons, List.map_nil, List.length_cons, List.length_nil, List.length_map, List.any_cons, List.any_nil, id, if_true, if_false, Bool.not_true, Bool.not_false, Bool.or_false, Bool.false_or, Bool.or_true, Bool.true_or, Bool.and_true, Bool.true_and, Bool.and_false, Bool.false_and, Option.map_some, Option.map_none, decide_true, decide_false, String.reduceEq, reduceIte, Nat.reduceAdd, Int.reduceLT, Int.reduceLE, Nat.reduceLeDiff, Bool.false_eq_true, reduceCtorEq, not_false_eq_true, not_true_eq_false, decide_not, Int.reduceEq]
        · have hd : ∃ d : Nat, getIdx (tab (tab H brood) starts) (.list [.int 1, .int (many : Int)]) (.int (cell / 4000 % 2)) = some (.int (d : Int)) ∧ 0 < d ∧ d ≤ many := by
            rcases (by lia : cell / 4000 % 2 = 0 ∨ cell / 4000 % 2 = 1) with q | q
            · rw [q]; exact ⟨1, Zd _ _ _, by lia, by lia⟩
            · rw [q]; exact ⟨many, Ze _ _ _ _, hm, Nat.le_refl _⟩
          obtain ⟨d, hd, hd0, hdm⟩ := hd
          obtain ⟨j, hj⟩ := Int.eq_ofNat_of_zero_le (Int.emod_nonneg (way / 25) (by lia : (d : Int) ≠ 0))
          have hlt := Int.emod_lt_of_pos (way / 25) (by lia : 0 < (d : Int))
          have hjm : j < many := by lia
          have hjs : j < starts.length := by rw [p.ls]; lia
          have hr : starts[j]? = some starts[j] := List.getElem?_eq_getElem hjs
          have hmod : binV .Mod (.int (way / 25)) (.int (d : Int)) (tab (tab H brood) starts) = some (.int (j : Int)) := by rw [bin_mod (by lia), hj]
          refine ⟨upd (upd ρ "_law_task" (.int (i : Int))) "_law_way" (.int way), brood, starts.set j (starts[j] ++ [(i : Int)]), ?_, e2, p.starts hr (List.perm_append_singleton _ _)⟩
          unfold s_law_plan_by_k10 s_law_plan_by_k9 s_law_plan_by_k8
          simp only [k1, k2]
          simp only [t1, t2]
          simp only [h3, bin_mod, Qa, Qb, Qc, Qd, Qe, Qf, retS, nxt, asgN, asgT, Qg, Qh, Qi, Qj, Qk, Ql, Qm, Qn, ne_eq, binR, Qo, Qp, subI, subS, noneE, listD, tupD, Qq, Qr, callP, callQ, Qs, Qt, Qu, Qv, callLen, Qw, Qx, Qy, Qz, QA, QB, QC, QD, QE, QF, QG, QH, QI, QJ, QK, QL, QM, QN, QO, QP, QQ, QR, QS, tob, QT, notB, notV, QU, QV, QW, QX, QY, QZ, Q0, cond_true, cond_false, isR, Q1, Q2, Q3, Q4, Q5, isTup, isLis, isStr, isInt, isBoo, updTup, updAll, updName, Q6, Q7, Q8, Q9, Za, Zb, Zc, Zd, Ze, Zf, Zg, sz0, sz1, sz2, sz3, sz4, sz5, Zh, Zi, Zj, List.map_cons, List.map_nil, List.length_cons, List.length_nil, List.length_map, List.any_cons, List.any_nil, id, if_true, if_false, Bool.not_true, Bool.not_false, Bool.or_false, Bool.false_or, Bool.or_true, Bool.true_or, Bool.and_true, Bool.true_and, Bool.and_false, Bool.false_and, Option.map_some, Option.map_none, decide_true, decide_false, String.reduceEq, reduceIte, Nat.reduceAdd, Int.reduceLT, Int.reduceLE, Nat.reduceLeDiff, Bool.false_eq_true, reduceCtorEq, not_false_eq_true, not_true_eq_false, decide_not]
          unfold s_law_plan_by_k7
          rw [meth_append (l := starts[j]) (t := (i : Int)) (k := (tab H brood).length + j) ?_ ?_ (tab_row0 hr) ?_]
          · simp only [tab_set0 hjs, Qa, Qb, Qc, Qd, Qe, Qf, retS, nxt, asgN, asgT, Qg, Qh, Qi, Qj, Qk, Ql, Qm, Qn, ne_eq, binR, Qo, Qp, subI, subS, noneE, listD, tupD, Qq, Qr, callP, callQ, Qs, Qt, Qu, Qv, callLen, Qw, Qx, Qy, Qz, QA, QB, QC, QD, QE, QF, QG, QH, QI, QJ, QK, QL, QM, QN, QO, QP, QQ, QR, QS, tob, QT, notB, notV, QU, QV, QW, QX, QY, QZ, Q0, cond_true, cond_false, isR, Q1, Q2, Q3, Q4, Q5, isTup, isLis, isStr, isInt, isBoo, updTup, updAll, updName, Q6, Q7, Q8, Q9, Za, Zb, Zc, Zd, Ze, Zf, Zg, sz0, sz1, sz2, sz3, sz4, sz5, Zh, Zi, Zj, List.map_cons, List.map_nil, List.length_cons, List.length_nil, List.length_map, List.any_cons, List.any_nil, id, if_true, if_false, Bool.not_true, Bool.not_false, Bool.or_false, Bool.false_or, Bool.or_true, Bool.true_or, Bool.and_true, Bool.true_and, Bool.and_false, Bool.false_and, Option.map_some, Option.map_none, decide_true, decide_false, String.reduceEq, reduceIte, Nat.reduceAdd, Int.reduceLT, Int.reduceLE, Nat.reduceLeDiff, Bool.false_eq_true, reduceCtorEq, not_false_eq_true, not_true_eq_false, decide_not]
          · simp only [l6, l3, l4, sz2, hd, hmod, gS j hjm, bin_div, bin_mod, Qa, Qb, Qc, Qd, Qe, Qf, retS, nxt, asgN, asgT, Qg, Qh, Qi, Qj, Qk, Ql, Qm, Qn, ne_eq, binR, Qo, Qp, subI, subS, noneE, listD, tupD, Qq, Qr, callP, callQ, Qs, Qt, Qu, Qv, callLen, Qw, Qx, Qy, Qz, QA, QB, QC, QD, QE, QF, QG, QH, QI, QJ, QK, QL, QM, QN, QO, QP, QQ, QR, QS, tob, QT, notB, notV, QU, QV, QW, QX, QY, QZ, Q0, cond_true, cond_false, isR, Q1, Q2, Q3, Q4, Q5, isTup, isLis, isStr, isInt, isBoo, updTup, updAll, updName, Q6, Q7, Q8, Q9, Za, Zb, Zc, Zd, Ze, Zf, Zg, sz0, sz1, sz2, sz3, sz4, sz5, Zh, Zi, Zj, List.map_cons, List.map_nil, List.length_cons, List.length_nil, List.length_map, List.any_cons, List.any_nil, id, if_true, if_false, Bool.not_true, Bool.not_false, Bool.or_false, Bool.false_or, Bool.or_true, Bool.true_or, Bool.and_true, Bool.true_and, Bool.and_false, Bool.false_and, Option.map_some, Option.map_none, decide_true, decide_false, String.reduceEq, reduceIte, Nat.reduceAdd, Int.reduceLT, Int.reduceLE, Nat.reduceLeDiff, Bool.false_eq_true, reduceCtorEq, not_false_eq_true, not_true_eq_false, decide_not]
          · simp only [Qa, Qb, Qc, Qd, Qe, Qf, retS, nxt, asgN, asgT, Qg, Qh, Qi, Qj, Qk, Ql, Qm, Qn, ne_eq, binR, Qo, Qp, subI, subS, noneE, listD, tupD, Qq, Qr, callP, callQ, Qs, Qt, Qu, Qv, callLen, Qw, Qx, Qy, Qz, QA, QB, QC, QD, QE, QF, QG, QH, QI, QJ, QK, QL, QM, QN, QO, QP, QQ, QR, QS, tob, QT, notB, notV, QU, QV, QW, QX, QY, QZ, Q0, cond_true, cond_false, isR, Q1, Q2, Q3, Q4, Q5, isTup, isLis, isStr, isInt, isBoo, updTup, updAll, updName, Q6, Q7, Q8, Q9, Za, Zb, Zc, Zd, Ze, Zf, Zg, sz0, sz1, sz2, sz3, sz4, sz5, Zh, Zi, Zj, List.map_cons, List.map_nil, List.length_cons, List.length_nil, List.length_map, List.any_cons, List.any_nil, id, if_true, if_false, Bool.not_true, Bool.not_false, Bool.or_false, Bool.false_or, Bool.or_true, Bool.true_or, Bool.and_true, Bool.true_and, Bool.and_false, Bool.false_and, Option.map_some, Option.map_none, decide_true, decide_false, String.reduceEq, reduceIte, Nat.reduceAdd, Int.reduceLT, Int.reduceLE, Nat.reduceLeDiff, Bool.false_eq_true, reduceCtorEq, not_false_eq_true, not_true_eq_false, decide_not]
          · have := (p.st j _ hr).1; unfold sizeMax; lia
  unfold s_law_plan_by_b11
  simp only [l1, l2, l3, c1, m1, bin_mod, bin_div, Qa, Qb, Qc, Qd, Qe, Qf, retS, nxt, asgN, asgT, Qg, Qh, Qi, Qj, Qk, Ql, Qm, Qn, ne_eq, binR, Qo, Qp, subI, subS, noneE, listD, tupD, Qq, Qr, callP, callQ, Qs, Qt, Qu, Qv, callLen, Qw, Qx, Qy, Qz, QA, QB, QC, QD, QE, QF, QG, QH, QI, QJ, QK, QL, QM, QN, QO, QP, QQ, QR, QS, tob, QT, notB, notV, QU, QV, QW, QX, QY, QZ, Q0, cond_true, cond_false, isR, Q1, Q2, Q3, Q4, Q5, isTup, isLis, isStr, isInt, isBoo, updTup, updAll, updName, Q6, Q7, Q8, Q9, Za, Zb, Zc, Zd, Ze, Zf, Zg, sz0, sz1, sz2, sz3, sz4, sz5, Zh, Zi, Zj, List.map_cons, List.map_nil, List.length_cons, List.length_nil, List.length_map, List.any_cons, List.any_nil, id, if_true, if_false, Bool.not_true, Bool.not_false, Bool.or_false, Bool.false_or, Bool.or_true, Bool.true_or, Bool.and_true, Bool.true_and, Bool.and_false, Bool.false_and, Option.map_some, Option.map_none, decide_true, decide_false, String.reduceEq, reduceIte, Nat.reduceAdd, Int.reduceLT, Int.reduceLE, Nat.reduceLeDiff, Bool.false_eq_true, reduceCtorEq, not_false_eq_true, not_true_eq_false, decide_not]
  exact hw _ rfl

theorem new_rows {c i : Phi → Nat → Loc → HP → R AV} {Φ : Phi} {b : Nat} {x : Str} {ρ : Loc} {G : HP} {m : Nat} (hc : ∀ ρ G, c Φ b ρ G = some (.ref G.length, G ++ [[]])) (hi : i Φ b ρ G = some (.range 0 (m : Int), G)) (hm : m ≤ sizeMax) :
    madeL (compR tt0 (c Φ b) x ρ (i Φ b ρ) G) = some (.ref (G.length + m), tab G (List.replicate m [])) := by
  rw [compR_new (src := .range 0 (m : Int)) (xs := rangeL 0 (m : Int)) hi rfl (by rw [rangeL_len]; exact hm) (fun v H => hc _ H)]
  simp only [Q7, rangeL_len, tab, List.map_replicate, List.length_replicate, List.length_append]
  rfl

theorem plan_by_eval (n base : Nat) (ns : List Int) (first most : Int) (hf : 0 ≤ first) (h0 : 0 ≤ most) (h1 : most ≤ 900) : ∃ size many brood starts,
    callF CC (n+2) base "_law_plan_by" [.list (ns.map .int), .int first, .int most] [] = some (.tup [.list (brood.map iL), .list (starts.map iL)], []) ∧ PlanOk size many size brood starts ∧ 0 < many ∧ many ≤ 12 ∧ (size : Int) ≤ most := by
  rw [g_law_plan_by]
  show ∃ size many brood starts, finZ (s_law_plan_by_body (callF CC (n+1)) 0 (upd (upd (upd locNil "_law_script" (.list (ns.map .int))) "_law_first" (.int first)) "_law_most" (.int most)) []) = _ ∧ _
  obtain ⟨H, hH⟩ : ∃ H : HP, H = [] := ⟨_, rfl⟩
  have hl0 : H.length = 0 := by rw [hH]; rfl
  rw [← hH, ← hl0]
  have c1 := cell_at_eval n H.length ns first H hf
  generalize cellAt ns first = cell at c1
  have hd : ∃ d : Int, getIdx H (.list [.int 4, .int 4, .int 12]) (.int (cell / 48 % 3)) = some (.int d) ∧ 0 < d ∧ d ≤ 12 := by
    rcases (by lia : cell / 48 % 3 = 0 ∨ cell / 48 % 3 = 1 ∨ cell / 48 % 3 = 2) with q | q | q
    · rw [q]; exact ⟨4, Zd _ _ _, by lia, by lia⟩
    · rw [q]; exact ⟨4, Ze _ _ _ _, by lia, by lia⟩
    · rw [q]; exact ⟨12, Zf _ _ _ _ _, by lia, by lia⟩
  obtain ⟨d, hd, hd0, hd12⟩ := hd
  obtain ⟨m, hm⟩ := Int.eq_ofNat_of_zero_le (Int.emod_nonneg cell (by lia : d ≠ 0))
  have hmd := Int.emod_lt_of_pos cell hd0
  obtain ⟨size, hs⟩ := Int.eq_ofNat_of_zero_le (Int.emod_nonneg (cell / 144) (by lia : most + 1 ≠ 0))
  have hsd := Int.emod_lt_of_pos (cell / 144) (by lia : 0 < most + 1)
  obtain ⟨many, hM⟩ : ∃ many, many = m + 1 := ⟨_, rfl⟩
  have hmany : (1 : Int) + (m : Int) = (many : Int) := by lia
  have md : ∀ G, binV .Mod (.int cell) (.int d) G = some (.int (m : Int)) := fun G => by rw [bin_mod hd0, hm]
  have sd : ∀ G, binV .Mod (.int (cell / 144)) (.int (most + 1)) G = some (.int (size : Int)) := fun G => by rw [bin_mod (by lia), hs]
  have hB : ∀ (ρ : Loc) (G : HP), ρ "_law_size" = some (.int (size : Int)) → madeL (compR tt0 (s_law_plan_by_c1 (callF CC (n+1)) H.length) "_law_task" ρ (s_law_plan_by_i2 (callF CC (n+1)) H.length ρ) G) = some (.ref (G.length + size), tab G (List.replicate size [])) := by
    intro ρ G hr
    refine new_rows (c := s_law_plan_by_c1) (i := s_law_plan_by_i2) (fun ρ G => ?_) ?_ (szOf (by lia))
    · simp only [s_law_plan_by_c1, Qa, Qb, Qc, Qd, Qe, Qf, retS, nxt, asgN, asgT, Qg, Qh, Qi, Qj, Qk, Ql, Qm, Qn, ne_eq, binR, Qo, Qp, subI, subS, noneE, listD, tupD, Qq, Qr, callP, callQ, Qs, Qt, Qu, Qv, callLen, Qw, Qx, Qy, Qz, QA, QB, QC, QD, QE, QF, QG, QH, QI, QJ, QK, QL, QM, QN, QO, QP, QQ, QR, QS, tob, QT, notB, notV, QU, QV, QW, QX, QY, QZ, Q0, cond_true, cond_false, isR, Q1, Q2, Q3, Q4, Q5, isTup, isLis, isStr, isInt, isBoo, updTup, updAll, updName, Q6, Q7, Q8, Q9, Za, Zb, Zc, Zd, Ze, Zf, Zg, sz0, sz1, sz2, sz3, sz4, sz5, Zh, Zi, Zj, List.map_cons, List.map_nil, List.length_cons, List.length_nil, List.length_map, List.any_cons, List.any_nil, id, if_true, if_false, Bool.not_true, Bool.not_false, Bool.or_false, Bool.false_or, Bool.or_true, Bool.true_or, Bool.and_true, Bool.true_and, Bool.and_false, Bool.false_and, Option.map_some, Option.map_none, decide_true, decide_false, String.reduceEq, reduceIte, Nat.reduceAdd, Int.reduceLT, Int.reduceLE, Nat.reduceLeDiff, Bool.false_eq_true, reduceCtorEq, not_false_eq_true, not_true_eq_false, decide_not]
    · simp only [s_law_plan_by_i2, lkp_some hr, small_len (n := size) (szOf (by lia)), Qa, Qb, Qc, Qd, Qe, Qf, retS, nxt, asgN, asgT, Qg, Qh, Qi, Qj, Qk, Ql, Qm, Qn, ne_eq, binR, Qo, Qp, subI, subS, noneE, listD, tupD, Qq, Qr, callP, callQ, Qs, Qt, Qu, Qv, callLen, Qw, Qx, Qy, Qz, QA, QB, QC, QD, QE, QF, QG, QH, QI, QJ, QK, QL, QM, QN, QO, QP, QQ, QR, QS, tob, QT, notB, notV, QU, QV, QW, QX, QY, QZ, Q0, cond_true, cond_false, isR, Q1, Q2, Q3, Q4, Q5, isTup, isLis, isStr, isInt, isBoo, updTup, updAll, updName, Q6, Q7, Q8, Q9, Za, Zb, Zc, Zd, Ze, Zf, Zg, sz0, sz1, sz2, sz3, sz4, sz5, Zh, Zi, Zj, List.map_cons, List.map_nil, List.length_cons, List.length_nil, List.length_map, List.any_cons, List.any_nil, id, if_true, if_false, Bool.not_true, Bool.not_false, Bool.or_false, Bool.false_or, Bool.or_true, Bool.true_or, Bool.and_true, Bool.true_and, Bool.and_false, Bool.false_and, Option.map_some, Option.map_none, decide_true, decide_false, String.reduceEq, reduceIte, Nat.reduceAdd, Int.reduceLT, Int.reduceLE, Nat.reduceLeDiff, Bool.false_eq_true, reduceCtorEq, not_false_eq_true, not_true_eq_false, decide_not]
  have hS : ∀ (ρ : Loc) (G : HP), ρ "_law_many" = some (.int (many : Int)) → madeL (compR tt0 (s_law_plan_by_c3 (callF CC (n+1)) H.length) "_law_worker" ρ (s_law_plan_by_i4 (callF CC (n+1)) H.length ρ) G) = some (.ref (G.length + many), tab G (List.replicate many [])) := by
    intro ρ G hr
    refine new_rows (c := s_law_plan_by_c3) (i := s_law_plan_by_i4) (fun ρ G => ?_) ?_ (szOf (by lia))
    · simp only [s_law_plan_by_c3, Qa, Qb, Qc, Qd, Qe, Qf, retS, nxt, asgN, asgT, Qg, Qh, Qi, Qj, Qk, Ql, Qm, Qn, ne_eq, binR, Qo, Qp, subI, subS, noneE, listD, tupD, Qq, Qr, callP, callQ, Qs, Qt, Qu, Qv, callLen, Qw, Qx, Qy, Qz, QA, QB, QC, QD, QE, QF, QG, QH, QI, QJ, QK, QL, QM, QN, QO, QP, QQ, QR, QS, tob, QT, notB, notV, QU, QV, QW, QX, QY, QZ, Q0, cond_true, cond_false, isR, Q1, Q2, Q3, Q4, Q5, isTup, isLis, isStr, isInt, isBoo, updTup, updAll, updName, Q6, Q7, Q8, Q9, Za, Zb, Zc, Zd, Ze, Zf, Zg, sz0, sz1, sz2, sz3, sz4, sz5, Zh, Zi, Zj, List.map_cons, List.map_nil, List.length_cons, List.length_nil, List.length_map, List.any_cons, List.any_nil, id, if_true, if_false, Bool.not_true, Bool.not_false, Bool.or_false, Bool.false_or, Bool.or_true, Bool.true_or, Bool.and_true, Bool.true_and, Bool.and_false, Bool.false_and, Option.map_some, Option.map_none, decide_true, decide_false, String.reduceEq, reduceIte, Nat.reduceAdd, Int.reduceLT, Int.reduceLE, Nat.reduceLeDiff, Bool.false_eq_true, reduceCtorEq, not_false_eq_true, not_true_eq_false, decide_not]
    · simp only [s_law_plan_by_i4, lkp_some hr, small_len (n := many) (szOf (by lia)), Qa, Qb, Qc, Qd, Qe, Qf, retS, nxt, asgN, asgT, Qg, Qh, Qi, Qj, Qk, Ql, Qm, Qn, ne_eq, binR, Qo, Qp, subI, subS, noneE, listD, tupD, Qq, Qr, callP, callQ, Qs, Qt, Qu, Qv, callLen, Qw, Qx, Qy, Qz, QA, QB, QC, QD, QE, QF, QG, QH, QI, QJ, QK, QL, QM, QN, QO, QP, QQ, QR, QS, tob, QT, notB, notV, QU, QV, QW, QX, QY, QZ, Q0, cond_true, cond_false, isR, Q1, Q2, Q3, Q4, Q5, isTup, isLis, isStr, isInt, isBoo, updTup, updAll, updName, Q6, Q7, Q8, Q9, Za, Zb, Zc, Zd, Ze, Zf, Zg, sz0, sz1, sz2, sz3, sz4, sz5, Zh, Zi, Zj, List.map_cons, List.map_nil, List.length_cons, List.length_nil, List.length_map, List.any_cons, List.any_nil, id, if_true, if_false, Bool.not_true, Bool.not_false, Bool.or_false, Bool.false_or, Bool.or_true, Bool.true_or, Bool.and_true, Bool.true_and, Bool.and_false, Bool.false_and, Option.map_some, Option.map_none, decide_true, decide_false, String.reduceEq, reduceIte, Nat.reduceAdd, Int.reduceLT, Int.reduceLE, Nat.reduceLeDiff, Bool.false_eq_true, reduceCtorEq, not_false_eq_true, not_true_eq_false, decide_not]
  have start : PlanOk size many 0 (List.replicate size []) (List.replicate many []) := by
    refine ⟨by simp, by simp, fun j row e => ?_, fun j row e => ?_, ?_⟩
    · have := List.mem_of_getElem? e; rw [List.eq_of_mem_replicate this]; simp
    · have := List.mem_of_getElem? e; rw [List.eq_of_mem_replicate this]; simp
    · simp
  have loop : ∀ (ρ : Loc), ρ "_law_size" = some (.int (size : Int)) → PbEnv ρ ns first cell size many H.length → ∃ ρ' G', forR (s_law_plan_by_b11 (callF CC (n+1)) H.length) (updName "_law_task") (s_law_plan_by_i12 (callF CC (n+1)) H.length ρ) ρ (tab (tab H (List.replicate size [])) (List.replicate many [])) = some (.next, ρ', G') ∧
      ∃ brood starts, G' = tab (tab H brood) starts ∧ PbEnv ρ' ns first cell size many H.length ∧ PlanOk size many size brood starts := by
    intro ρ hr e
    have := forR_inv (body := s_law_plan_by_b11 (callF CC (n+1)) H.length) (tgt := updName "_law_task") (it := s_law_plan_by_i12 (callF CC (n+1)) H.length ρ) (ρ := ρ) (H := tab (tab H (List.replicate size [])) (List.replicate many []))
      (H1 := tab (tab H (List.replicate size [])) (List.replicate many [])) (src := .range 0 (size : Int)) (xs := rangeL 0 (size : Int))
      (fun i ρ G => ∃ brood starts, G = tab (tab H brood) starts ∧ PbEnv ρ ns first cell size many H.length ∧ PlanOk size many i brood starts)
      (by simp only [s_law_plan_by_i12, lkp_some hr, small_len (n := size) (szOf (by lia)), Qa, Qb, Qc, Qd, Qe, Qf, retS, nxt, asgN, asgT, Qg, Qh, Qi, Qj, Qk, Ql, Qm, Qn, ne_eq, binR, Qo, Qp, subI, subS, noneE, listD, tupD, Qq, Qr, callP, callQ, Qs, Qt, Qu, Qv, callLen, Qw, Qx, Qy, Qz, QA, QB, QC, QD, QE, QF, QG, QH, QI, QJ, QK, QL, QM, QN, QO, QP, QQ, QR, QS, tob, QT, notB, notV, QU, QV, QW, QX, QY, QZ, Q0, cond_true, cond_false, isR, Q1, Q2, Q3, Q4, Q5, isTup, isLis, isStr, isInt, isBoo, updTup, updAll, updName, Q6, Q7, Q8, Q9, Za, Zb, Zc, Zd, Ze, Zf, Zg, sz0, sz1, sz2, sz3, sz4, sz5, Zh, Zi, Zj, List.map_cons, List.map_nil, List.length_cons, List.length_nil, List.length_map, List.any_cons, List.any_nil, id, if_true, if_false, Bool.not_true, Bool.not_false, Bool.or_false, Bool.false_or, Bool.or_true, Bool.true_or, Bool.and_true, Bool.true_and, Bool.and_false, Bool.false_and, Option.map_some, Option.map_none, decide_true, decide_false, String.reduceEq, reduceIte, Nat.reduceAdd, Int.reduceLT, Int.reduceLE, Nat.reduceLeDiff, Bool.false_eq_true, reduceCtorEq, not_false_eq_true, not_true_eq_false, decide_not]) rfl ⟨_, _, rfl, e, start⟩ ?_
    · rwa [rangeL_len] at this
    · rintro i v ρ2 G hv ⟨brood, starts, rfl, e2, p2⟩
      have hi : i < size := by
        have := (List.getElem?_eq_some_iff.mp hv).1; rwa [rangeL_len] at this
      have hvi : v = .int (i : Int) := by
        rw [rangeL_nat] at hv; simp [hi] at hv; exact hv.symm
      subst hvi
      obtain ⟨ρ', brood', starts', h1, h2, h3⟩ := plan_step n e2 hf hi (by lia) (by lia) p2
      exact ⟨_, ρ', _, rfl, h1, brood', starts', rfl, h2, h3⟩
  have ρe : ∀ (ρ : Loc) (v1 v2 : AV), ρ = upd (upd (upd (upd (upd (upd (upd (upd locNil "_law_script" (.list (ns.map .int))) "_law_first" (.int first)) "_law_most" (.int most)) "_law_cell" (.int cell)) "_law_many" (.int (many : Int))) "_law_size" (.int (size : Int))) "_law_brood" (.ref (H.length + size))) "_law_starts" (.ref ((tab H (List.replicate size [])).length + many)) →
      ρ "_law_size" = some (.int (size : Int)) ∧ PbEnv ρ ns first cell size many H.length := by
    rintro ρ v1 v2 rfl
    refine ⟨by simp only [Qa, Qb, Qc, Qd, Qe, Qf, retS, nxt, asgN, asgT, Qg, Qh, Qi, Qj, Qk, Ql, Qm, Qn, ne_eq, binR, Qo, Qp, subI, subS, noneE, listD, tupD, Qq, Qr, callP, callQ, Qs, Qt, Qu, Qv, callLen, Qw, Qx, Qy, Qz, QA, QB, QC, QD, QE, QF, QG, QH, QI, QJ, QK, QL, QM, QN, QO, QP, QQ, QR, QS, tob, QT, notB, notV, QU, QV, QW, QX, QY, QZ, Q0, cond_true, cond_false, isR, Q1, Q2, Q3, Q4, Q5, isTup, isLis, isStr, isInt, isBoo, updTup, updAll, updName, Q6, Q7, Q8, Q9, Za, Zb, Zc, Zd, Ze, Zf, Zg, sz0, sz1, sz2, sz3, sz4, sz5, Zh, Zi, Zj, List.map_cons, List.map_nil, List.length_cons, List.length_nil, List.length_map, List.any_cons, List.any_nil, id, if_true, if_false, Bool.not_true, Bool.not_false, Bool.or_false, Bool.false_or, Bool.or_true, Bool.true_or, Bool.and_true, Bool.true_and, Bool.and_false, Bool.false_and, Option.map_some, Option.map_none, decide_true, decide_false, String.reduceEq, reduceIte, Nat.reduceAdd, Int.reduceLT, Int.reduceLE, Nat.reduceLeDiff, Bool.false_eq_true, reduceCtorEq, not_false_eq_true, not_true_eq_false, decide_not], by simp only [Qa, Qb, Qc, Qd, Qe, Qf, retS, nxt, asgN, asgT, Qg, Qh, Qi, Qj, Qk, Ql, Qm, Qn, ne_eq, binR, Qo, Qp, subI, subS, noneE, listD, tupD, Qq, Qr, callP, callQ, Qs, Qt, Qu, Qv, callLen, Qw, Qx, Qy, Qz, QA, QB, QC, QD, QE, QF, QG, QH, QI, QJ, QK, QL, QM, QN, QO, QP, QQ, QR, QS, tob, QT, notB, notV, QU, QV, QW, QX, QY, QZ, Q0, cond_true, cond_false, isR, Q1, Q2, Q3, Q4, Q5, isTup, isLis, isStr, isInt, isBoo, updTup, updAll, updName, Q6, Q7, Q8, Q9, Za, Zb, Zc, Zd, Ze, Zf, Zg, sz0, sz1, sz2, sz3, sz4, sz5, Zh, Zi, Zj, List.map_cons, List.map_nil, List.length_cons, List.length_nil, List.length_map, List.any_cons, List.any_nil, id, if_true, if_false, Bool.not_true, Bool.not_false, Bool.or_false, Bool.false_or, Bool.or_true, Bool.true_or, Bool.and_true, Bool.true_and, Bool.and_false, Bool.false_and, Option.map_some, Option.map_none, decide_true, decide_false, String.reduceEq, reduceIte, Nat.reduceAdd, Int.reduceLT, Int.reduceLE, Nat.reduceLeDiff, Bool.false_eq_true, reduceCtorEq, not_false_eq_true, not_true_eq_false, decide_not], by simp only [Qa, Qb, Qc, Qd, Qe, Qf, retS, nxt, asgN, asgT, Qg, Qh, Qi, Qj, Qk, Ql, Qm, Qn, ne_eq, binR, Qo, Qp, subI, subS, noneE, listD, tupD, Qq, Qr, callP, callQ, Qs, Qt, Qu, Qv, callLen, Qw, Qx, Qy, Qz, QA, QB, QC, QD, QE, QF, QG, QH, QI, QJ, QK, QL, QM, QN, QO, QP, QQ, QR, QS, tob, QT, notB, notV, QU, QV, QW, QX, QY, QZ, Q0, cond_true, cond_false, isR, Q1, Q2, Q3, Q4, Q5, isTup, isLis, isStr, isInt, isBoo, updTup, updAll, updName, Q6, Q7, Q8, Q9, Za, Zb, Zc, Zd, Ze, Zf, Zg, sz0, sz1, sz2, sz3, sz4, sz5, Zh, Zi, Zj, List.map_cons, List.map_nil, List.length_cons, List.length_nil, List.length_map, List.any_cons, List.any_nil, id, if_true, if_false, Bool.not_true, Bool.not_false, Bool.or_false, Bool.false_or, Bool.or_true, Bool.true_or, Bool.and_true, Bool.true_and, Bool.and_false, Bool.false_and, Option.map_some, Option.map_none, decide_true, decide_false, String.reduceEq, reduceIte, Nat.reduceAdd, Int.reduceLT, Int.reduceLE, Nat.reduceLeDiff, Bool.false_eq_true, reduceCtorEq, not_false_eq_true, not_true_eq_false, decide_not], by simp only [Qa, Qb, Qc, Qd, Qe, Qf, retS, nxt, asgN, asgT, Qg, Qh, Qi, Qj, Qk, Ql, Qm, Qn, ne_eq, binR, Qo, Qp, subI, subS, noneE, listD, tupD, Qq, Qr, callP, callQ, Qs, Qt, Qu, Qv, callLen, Qw, Qx, Qy, Qz, QA, QB, QC, QD, QE, QF, QG, QH, QI, QJ, QK, QL, QM, QN, QO, QP, QQ, QR, QS, tob, QT, notB, notV, QU, QV, QW, QX, QY, QZ, Q0, cond_true, cond_false, isR, Q1, Q2, Q3, Q4, Q5, isTup, isLis, isStr, isInt, isBoo, updTup, updAll, updName, Q6, Q7, Q8, Q9, Za, Zb, Zc, Zd, Ze, Zf, Zg, sz0, sz1, sz2, sz3, sz4, sz5, Zh, Zi, Zj, List.map_cons, List.map_nil, List.length_cons, List.length_nil, List.length_map, List.any_cons, List.any_nil, id, if_true, if_false, Bool.not_true, Bool.not_false, Bool.or_false, Bool.false_or, Bool.or_true, Bool.true_or, Bool.and_true, Bool.true_and, Bool.and_false, Bool.false_and, Option.map_some, Option.map_none, decide_true, decide_false, String.reduceEq, reduceIte, Nat.reduceAdd, Int.reduceLT, Int.reduceLE, Nat.reduceLeDiff, Bool.false_eq_true, reduceCtorEq, not_false_eq_true, not_true_eq_false, decide_not], by simp only [Qa, Qb, Qc, Qd, Qe, Qf, retS, nxt, asgN, asgT, Qg, Qh, Qi, Qj, Qk, Ql, Qm, Qn, ne_eq, binR, Qo, Qp, subI, subS, noneE, listD, tupD, Qq, Qr, callP, callQ, Qs, Qt, Qu, Qv, callLen, Qw, Qx, Qy, Qz, QA, QB, QC, QD, QE, QF, QG, QH, QI, QJ, QK, QL, QM, QN, QO, QP, QQ, QR, QS, tob, QT, notB, notV, QU, QV, QW, QX, QY, QZ, Q0, cond_true, cond_false, isR, Q1, Q2, Q3, Q4, Q5, isTup, isLis, isStr, isInt, isBoo, updTup, updAll, updName, Q6, Q7, Q8, Q9, Za, Zb, Zc, Zd, Ze, Zf, Zg, sz0, sz1, sz2, sz3, sz4, sz5, Zh, Zi, Zj, List.map_cons, List.map_nil, List.length_cons, List.length_nil, List.length_map, List.any_cons, List.any_nil, id, if_true, if_false, Bool.not_true, Bool.not_false, Bool.or_false, Bool.false_or, Bool.or_true, Bool.true_or, Bool.and_true, Bool.true_and, Bool.and_false, Bool.false_and, Option.map_some, Option.map_none, decide_true, decide_false, String.reduceEq, reduceIte, Nat.reduceAdd, Int.reduceLT, Int.reduceLE, Nat.reduceLeDiff, Bool.false_eq_true, reduceCtorEq, not_false_eq_true, not_true_eq_false, decide_not], by simp only [Qa, Qb, Qc, Qd, Qe, Qf, retS, nxt, asgN, asgT, Qg, Qh, Qi, Qj, Qk, Ql, Qm, Qn, ne_eq, binR, Qo, Qp, subI, subS, noneE, listD, tupD, Qq, Qr, callP, callQ, Qs, Qt, Qu, Qv, callLen, Qw, Qx, Qy, Qz, QA, QB, QC, QD, QE, QF, QG, QH, QI, QJ, QK, QL, QM, QN, QO, QP, QQ, QR, QS, tob, QT, notB, notV, QU, QV, QW, QX, QY, QZ, Q0, cond_true, cond_false, isR, Q1, Q2, Q3, Q4, Q5, isTup, isLis, isStr, isInt, isBoo, updTup, updAll, updName, Q6, Q7, Q8, Q9, Za, Zb, Zc, Zd, Ze, Zf, Zg, sz0, sz1, sz2, sz3, sz4, sz5, Zh, Zi, Zj, List.map_cons, List.map_nil, List.length_cons, List.length_nil, List.length_map, List.any_cons, List.any_nil, id, if_true, if_false, Bool.not_true, Bool.not_false, Bool.or_false, Bool.false_or, Bool.or_true, Bool.true_or, Bool.and_true, Bool.true_and, Bool.and_false, Bool.false_and, Option.map_some, Option.map_none, decide_true, decide_false, String.reduceEq, reduceIte, Nat.reduceAdd, Int.reduceLT, Int.reduceLE, Nat.reduceLeDiff, Bool.false_eq_true, reduceCtorEq, not_false_eq_true, not_true_eq_false, decide_not], ?_⟩
    simp only [tab_len, List.length_replicate, Qa, Qb, Qc, Qd, Qe, Qf, retS, nxt, asgN, asgT, Qg, Qh, Qi, Qj, Qk, Ql, Qm, Qn, ne_eq, binR, Qo, Qp, subI, subS, noneE, listD, tupD, Qq, Qr, callP, callQ, Qs, Qt, Qu, Qv, callLen, Qw, Qx, Qy, Qz, QA, QB, QC, QD, QE, QF, QG, QH, QI, QJ, QK, QL, QM, QN, QO, QP, QQ, QR, QS, tob, QT, notB, notV, QU, QV, QW, QX, QY, QZ, Q0, cond_true, cond_false, isR, Q1, Q2, Q3, Q4, Q5, isTup, isLis, isStr, isInt, isBoo, updTup, updAll, updName, Q6, Q7, Q8, Q9, Za, Zb, Zc, Zd, Ze, Zf, Zg, sz0, sz1, sz2, sz3, sz4, sz5, Zh, Zi, Zj, List.map_cons, List.map_nil, List.length_cons, List.length_nil, List.length_map, List.any_cons, List.any_nil, id, if_true, if_false, Bool.not_true, Bool.not_false, Bool.or_false, Bool.false_or, Bool.or_true, Bool.true_or, Bool.and_true, Bool.true_and, Bool.and_false, Bool.false_and, Option.map_some, Option.map_none, decide_true, decide_false, String.reduceEq, reduceIte, Nat.reduceAdd, Int.reduceLT, Int.reduceLE, Nat.reduceLeDiff, Bool.false_eq_true, reduceCtorEq, not_false_eq_true, not_true_eq_false, decide_not]
  obtain ⟨q1, q2⟩ := ρe _ .none .none rfl
  obtain ⟨ρ', G', e1, brood, starts, rfl, e2, p2⟩ := loop _ q1 q2
  refine ⟨size, many, brood, starts, ?_, p2, by lia, by lia, by lia⟩
  simp only [s_law_plan_by, s_law_plan_by_body, s_law_plan_by_k5, s_law_plan_by_k6, s_law_plan_by_k7, s_law_plan_by_k8, s_law_plan_by_k9, s_law_plan_by_k10, s_law_plan_by_k13, s_law_plan_by_k14, s_law_plan_by_k15, s_law_plan_by_k16, s_law_plan_by_k17, s_law_plan_by_k18, c1, hd, md, sd, hmany, bin_div, bin_mod, Qa, Qb, Qc, Qd, Qe, Qf, retS, nxt, asgN, asgT, Qg, Qh, Qi, Qj, Qk, Ql, Qm, Qn, ne_eq, binR, Qo, Qp, subI, subS, noneE, listD, tupD, Qq, Qr, callP, callQ, Qs, Qt, Qu, Qv, callLen, Qw, Qx, Qy, Qz, QA, QB, QC, QD, QE, QF, QG, QH, QI, QJ, QK, QL, QM, QN, QO, QP, QQ, QR, QS, tob, QT, notB, notV, QU, QV, QW, QX, QY, QZ, Q0, cond_true, cond_false, isR, Q1, Q2, Q3, Q4, Q5, isTup, isLis, isStr, isInt, isBoo, updTup, updAll, updName, Q6, Q7, Q8, Q9, Za, Zb, Zc, Zd, Ze, Zf, Zg, sz0, sz1, sz2, sz3, sz4, sz5, Zh, Zi, Zj, List.map_cons, List.map_nil, List.length_cons, List.length_nil, List.length_map, List.any_cons, List.any_nil, id, if_true, if_false, Bool.not_true, Bool.not_false, Bool.or_false, Bool.false_or, Bool.or_true, Bool.true_or, Bool.and_true, Bool.true_and, Bool.and_false, Bool.false_and, Option.map_some, Option.map_none, decide_true, decide_false, String.reduceEq, reduceIte, Nat.reduceAdd, Int.reduceLT, Int.reduceLE, Nat.reduceLeDiff, Bool.false_eq_true, reduceCtorEq, not_false_eq_true, not_true_eq_false, decide_not, hB, hS, e1, e2.ebrood, e2.estarts, lkp]
  have f1 : hop (tab (tab H brood) starts) 4 (H.length + size) = some (.list (brood.map iL)) := by
    rw [tab_tab, ← p2.lb]; exact fz_tab (n := 2)
  have f2 : hop (tab (tab H brood) starts) 4 (H.length + size + 1 + many) = some (.list (starts.map iL)) := by
    have := fz_tab (n := 2) (H := tab H brood) (T := []) (rows := starts)
    rw [List.append_nil, tab_len, p2.lb, p2.ls] at this
    exact this
  simp only [finZ, fz, rsv, rsvs, f1, f2, Option.map_some]
  rw [hH]
/-! ### the law -/
theorem plan_sz {size many : Nat} {b s : List (List Int)} (p : PlanOk size many size b s) (h1 : many ≤ 12) (h2 : size ≤ 30) : Sz 30 b s := by
  refine ⟨by rw [p.lb]; exact h2, by rw [p.ls]; lia, fun r m => ?_, fun r m => ?_⟩
  · obtain ⟨j, hj, e⟩ := List.mem_iff_getElem.mp m
    exact Nat.le_trans (p.br j r (by rw [List.getElem?_eq_getElem hj, e])).1 h2
  · obtain ⟨j, hj, e⟩ := List.mem_iff_getElem.mp m
    exact Nat.le_trans (p.st j r (by rw [List.getElem?_eq_getElem hj, e])).1 h2
structure LE (ns : List Int) (b0 s0 b s : List (List Int)) (ρ : Loc) : Prop where
  sc : ρ "_law_script" = some (.list (ns.map AV.int))
  rh : ρ "_law_right_here" = some (planV b0 s0)
  pl : ρ "_law_plan" = some (planV b s)
theorem law_eval (n : Nat) (ns : List Int) : ∃ H', callF CC (n+6) 0 "law" [.list (ns.map AV.int)] [] = some (.bool true, H') := by
  rw [g_law]
  obtain ⟨size, many, b0, s0, hp, p, hm0, hm1, hs⟩ := plan_by_eval (n+3) 0 ns 3 30 (by lia) (by lia) (by lia)
  have z0 : Sz 30 b0 s0 := plan_sz p hm1 (by lia)
  have hp' : callF CC (n+5) 0 "_law_plan_by" [.list (ns.map AV.int), .int 3, .int 30] [] = some (planV b0 s0, []) := hp
  have hc0 := cell_at_eval (n+4) 0 ns 0 [] (by lia)
  have hc0' : callF CC (n+5) 0 "_law_cell_at" [.list (ns.map AV.int), .int 0] [] = some (.int (cellAt ns 0), []) := hc0
  generalize cellAt ns 0 = c at hc0'
  obtain ⟨k, hk⟩ := Int.eq_ofNat_of_zero_le (Int.emod_nonneg c (by lia : (3 : Int) ≠ 0))
  have hk3 : k < 3 := by have := Int.emod_lt_of_pos c (by lia : (0 : Int) < 3); lia
  have md : ∀ G, binV .Mod (.int c) (.int 3) G = some (.int (k : Int)) := fun G => by rw [bin_mod (by lia), hk]
  have a1 : ∃ ρ, s_law (callF CC (n+5)) 0 (.list (ns.map AV.int)) [] = finR (s_law_k4 (callF CC (n+5)) 0 ρ []) ∧ LE ns b0 s0 b0 s0 ρ := by
    refine ⟨upd (upd (upd locNil "_law_script" (.list (ns.map AV.int))) "_law_right_here" (planV b0 s0)) "_law_plan" (planV b0 s0), ?_, ⟨by simp only [Qa, Qb, Qc, Qd, Qe, Qf, retS, nxt, asgN, asgT, Qg, Qh, Qi, Qj, Qk, Ql, Qm, Qn, ne_eq, binR, Qo, Qp, subI, subS, noneE, listD, tupD, Qq, Qr, callP, callQ, Qs, Qt, Qu, Qv, callLen, Qw, Qx, Qy, Qz, QA, QB, QC, QD, QE, QF, QG, QH, QI, QJ, QK, QL, QM, QN, QO, QP, QQ, QR, QS, tob, QT, notB, notV, QU, QV, QW, QX, QY, QZ, Q0, cond_true, cond_false, isR, Q1, Q2, Q3, Q4, Q5, isTup, isLis, isStr, isInt, isBoo, updTup, updAll, updName, Q6, Q7, Q8, Q9, Za, Zb, Zc, Zd, Ze, Zf, Zg, sz0, sz1, sz2, sz3, sz4, sz5, Zh, Zi, Zj, List.map_cons, List.map_nil, List.length_cons, List.length_nil, List.length_map, List.any_cons, List.any_nil, id, if_true, if_false, Bool.not_true, Bool.not_false, Bool.or_false, Bool.false_or, Bool.or_true, Bool.true_or, Bool.and_true, Bool.true_and, Bool.and_false, Bool.false_and, Option.map_some, Option.map_none, decide_true, decide_false, String.reduceEq, reduceIte, Nat.reduceAdd, Int.reduceLT, Int.reduceLE, Nat.reduceLeDiff, Bool.false_eq_true, reduceCtorEq, not_false_eq_true, not_true_eq_false, decide_not], by simp only [Qa, Qb, Qc, Qd, Qe, Qf, retS, nxt, asgN, asgT, Qg, Qh, Qi, Qj, Qk, Ql, Qm, Qn, ne_eq, binR, Qo, Qp, subI, subS, noneE, listD, tupD, Qq, Qr, callP, callQ, Qs, Qt, Qu, Qv, callLen, Qw, Qx, Qy, Qz, QA, QB, QC, QD, QE, QF, QG, QH, QI, QJ, QK, QL, QM, QN, QO, QP, QQ, QR, QS, tob, QT, notB, notV, QU, QV, QW, QX, QY, QZ, Q0, cond_true, cond_false, isR, Q1, Q2, Q3, Q4, Q5, isTup, isLis, isStr, isInt, isBoo, updTup, updAll, updName, Q6, Q7, Q8, Q9, Za, Zb, Zc, Zd, Ze, Zf, Zg, sz0, sz1, sz2, sz3, sz4, sz5, Zh, Zi, Zj, List.map_cons, List.map_nil, List.length_cons, List.length_nil, List.length_map, List.any_cons, List.any_nil, id, if_true, if_false, Bool.not_true, Bool.not_false, Bool.or_false, Bool.false_or, Bool.or_true, Bool.true_or, Bool.and_true, Bool.true_and, Bool.and_false, Bool.false_and, Option.map_some, Option.map_none, decide_true, decide_false, String.reduceEq, reduceIte, Nat.reduceAdd, Int.reduceLT, Int.reduceLE, Nat.reduceLeDiff, Bool.false_eq_true, reduceCtorEq, not_false_eq_true, not_true_eq_false, decide_not], by simp only [Qa, Qb, Qc, Qd, Qe, Qf, retS, nxt, asgN, asgT, Qg, Qh, Qi, Qj, Qk, Ql, Qm, Qn, ne_eq, binR, Qo, Qp, subI, subS, noneE, listD, tupD, Qq, Qr, callP, callQ, Qs, Qt, Qu, Qv, callLen, Qw, Qx, Qy, Qz, QA, QB, QC, QD, QE, QF, QG, QH, QI, QJ, QK, QL, QM, QN, QO, QP, QQ, QR, QS, tob, QT, notB, notV, QU, QV, QW, QX, QY, QZ, Q0, cond_true, cond_false, isR, Q1, Q2, Q3, Q4, Q5, isTup, isLis, isStr, isInt, isBoo, updTup, updAll, updName, Q6, Q7, Q8, Q9, Za, Zb, Zc, Zd, Ze, Zf, Zg, sz0, sz1, sz2, sz3, sz4, sz5, Zh, Zi, Zj, List.map_cons, List.map_nil, List.length_cons, List.length_nil, List.length_map, List.any_cons, List.any_nil, id, if_true, if_false, Bool.not_true, Bool.not_false, Bool.or_false, Bool.false_or, Bool.or_true, Bool.true_or, Bool.and_true, Bool.true_and, Bool.and_false, Bool.false_and, Option.map_some, Option.map_none, decide_true, decide_false, String.reduceEq, reduceIte, Nat.reduceAdd, Int.reduceLT, Int.reduceLE, Nat.reduceLeDiff, Bool.false_eq_true, reduceCtorEq, not_false_eq_true, not_true_eq_false, decide_not]⟩⟩
    simp only [s_law, s_law_body, s_law_k5, hp', Qa, Qb, Qc, Qd, Qe, Qf, retS, nxt, asgN, asgT, Qg, Qh, Qi, Qj, Qk, Ql, Qm, Qn, ne_eq, binR, Qo, Qp, subI, subS, noneE, listD, tupD, Qq, Qr, callP, callQ, Qs, Qt, Qu, Qv, callLen, Qw, Qx, Qy, Qz, QA, QB, QC, QD, QE, QF, QG, QH, QI, QJ, QK, QL, QM, QN, QO, QP, QQ, QR, QS, tob, QT, notB, notV, QU, QV, QW, QX, QY, QZ, Q0, cond_true, cond_false, isR, Q1, Q2, Q3, Q4, Q5, isTup, isLis, isStr, isInt, isBoo, updTup, updAll, updName, Q6, Q7, Q8, Q9, Za, Zb, Zc, Zd, Ze, Zf, Zg, sz0, sz1, sz2, sz3, sz4, sz5, Zh, Zi, Zj, List.map_cons, List.map_nil, List.length_cons, List.length_nil, List.length_map, List.any_cons, List.any_nil, id, if_true, if_false, Bool.not_true, Bool.not_false, Bool.or_false, Bool.false_or, Bool.or_true, Bool.true_or, Bool.and_true, Bool.true_and, Bool.and_false, Bool.false_and, Option.map_some, Option.map_none, decide_true, decide_false, String.reduceEq, reduceIte, Nat.reduceAdd, Int.reduceLT, Int.reduceLE, Nat.reduceLeDiff, Bool.false_eq_true, reduceCtorEq, not_false_eq_true, not_true_eq_false, decide_not]
  obtain ⟨ρ, a1, E⟩ := a1
  have it : s_law_i2 (callF CC (n+5)) 0 ρ [] = some (.range 0 (k : Int), []) := by
    simp only [s_law_i2, lkp_some E.sc, hc0', md, small_len (n := k) (szOf (by lia)), Qa, Qb, Qc, Qd, Qe, Qf, retS, nxt, asgN, asgT, Qg, Qh, Qi, Qj, Qk, Ql, Qm, Qn, ne_eq, binR, Qo, Qp, subI, subS, noneE, listD, tupD, Qq, Qr, callP, callQ, Qs, Qt, Qu, Qv, callLen, Qw, Qx, Qy, Qz, QA, QB, QC, QD, QE, QF, QG, QH, QI, QJ, QK, QL, QM, QN, QO, QP, QQ, QR, QS, tob, QT, notB, notV, QU, QV, QW, QX, QY, QZ, Q0, cond_true, cond_false, isR, Q1, Q2, Q3, Q4, Q5, isTup, isLis, isStr, isInt, isBoo, updTup, updAll, updName, Q6, Q7, Q8, Q9, Za, Zb, Zc, Zd, Ze, Zf, Zg, sz0, sz1, sz2, sz3, sz4, sz5, Zh, Zi, Zj, List.map_cons, List.map_nil, List.length_cons, List.length_nil, List.length_map, List.any_cons, List.any_nil, id, if_true, if_false, Bool.not_true, Bool.not_false, Bool.or_false, Bool.false_or, Bool.or_true, Bool.true_or, Bool.and_true, Bool.true_and, Bool.and_false, Bool.false_and, Option.map_some, Option.map_none, decide_true, decide_false, String.reduceEq, reduceIte, Nat.reduceAdd, Int.reduceLT, Int.reduceLE, Nat.reduceLeDiff, Bool.false_eq_true, reduceCtorEq, not_false_eq_true, not_true_eq_false, decide_not]
  obtain ⟨ρ', G', l1, rfl, b, s, E', z⟩ := forR_inv (body := s_law_b1 (callF CC (n+5)) 0) (tgt := updName "_law_k") (it := s_law_i2 (callF CC (n+5)) 0 ρ) (ρ := ρ) (H := []) (xs := rangeL 0 (k : Int))
    (fun i ρ G => G = [] ∧ ∃ b s, LE ns b0 s0 b s ρ ∧ Sz (30 + 201 * i) b s) it rfl ⟨rfl, b0, s0, E, z0⟩ (by
      rintro i v ρ G hv ⟨rfl, b, s, E, z⟩
      have hi : i < k := by
        have := (List.getElem?_eq_some_iff.mp hv).1; rwa [rangeL_len] at this
      have hvi : v = .int (i : Int) := by
        rw [rangeL_nat] at hv; simp [hi] at hv; exact hv.symm
      subst hvi
      have c1 : callF CC (n+5) 0 "_law_cell_at" [.list (ns.map AV.int), .int (1 + (i : Int))] [] = some (.int (cellAt ns (1 + (i : Int))), []) := cell_at_eval (n+4) 0 ns (1 + (i : Int)) [] (by lia)
      have c2 : callF CC (n+5) 0 "_law_cell_at" [.list (ns.map AV.int), .int (3 + (i : Int))] [] = some (.int (cellAt ns (3 + (i : Int))), []) := cell_at_eval (n+4) 0 ns (3 + (i : Int)) [] (by lia)
      obtain ⟨b', s', h1, h2⟩ := changed_eval (n+3) 0 (cellAt ns (1 + (i : Int))) (cellAt ns (3 + (i : Int))) [] (by lia) z
      have h1' : callF CC (n+5) 0 "_law_changed" [planV b s, .int (cellAt ns (1 + (i : Int))), .int (cellAt ns (3 + (i : Int)))] [] = some (planV b' s', []) := h1
      refine ⟨upd ρ "_law_k" (.int (i : Int)), upd (upd ρ "_law_k" (.int (i : Int))) "_law_plan" (planV b' s'), [], rfl, ?_, rfl, b', s', ⟨by simp only [E.sc, Qa, Qb, Qc, Qd, Qe, Qf, retS, nxt, asgN, asgT, Qg, Qh, Qi, Qj, Qk, Ql, Qm, Qn, ne_eq, binR, Qo, Qp, subI, subS, noneE, listD, tupD, Qq, Qr, callP, callQ, Qs, Qt, Qu, Qv, callLen, Qw, Qx, Qy, Qz, QA, QB, QC, QD, QE, QF, QG, QH, QI, QJ, QK, QL, QM, QN, QO, QP, QQ, QR, QS, tob, QT, notB, notV, QU, QV, QW, QX, QY, QZ, Q0, cond_true, cond_false, isR, Q1, Q2, Q3, Q4, Q5, isTup, isLis, isStr, isInt, isBoo, updTup, updAll, updName, Q6, Q7, Q8, Q9, Za, Zb, Zc, Zd, Ze, Zf, Zg, sz0, sz1, sz2, sz3, sz4, sz5, Zh, Zi, Zj, List.map_cons, List.map_nil, List.length_cons, List.length_nil, List.length_map, List.any_cons, List.any_nil, id, if_true, if_false, Bool.not_true, Bool.not_false, Bool.or_false, Bool.false_or, Bool.or_true, Bool.true_or, Bool.and_true, Bool.true_and, Bool.and_false, Bool.false_and, Option.map_some, Option.map_none, decide_true, decide_false, String.reduceEq, reduceIte, Nat.reduceAdd, Int.reduceLT, Int.reduceLE, Nat.reduceLeDiff, Bool.false_eq_true, reduceCtorEq, not_false_eq_true, not_true_eq_false, decide_not], by simp only [E.rh, Qa, Qb, Qc, Qd, Qe, Qf, retS, nxt, asgN, asgT, Qg, Qh, Qi, Qj, Qk, Ql, Qm, Qn, ne_eq, binR, Qo, Qp, subI, subS, noneE, listD, tupD, Qq, Qr, callP, callQ, Qs, Qt, Qu, Qv, callLen, Qw, Qx, Qy, Qz, QA, QB, QC, QD, QE, QF, QG, QH, QI, QJ, QK, QL, QM, QN, QO, QP, QQ, QR, QS, tob, QT, notB, notV, QU, QV, QW, QX, QY, QZ, Q0, cond_true, cond_false, isR, Q1, Q2, Q3, Q4, Q5, isTup, isLis, isStr, isInt, isBoo, updTup, updAll, updName, Q6, Q7, Q8, Q9, Za, Zb, Zc, Zd, Ze, Zf, Zg, sz0, sz1, sz2, sz3, sz4, sz5, Zh, Zi, Zj, List.map_cons, List.map_nil, List.length_cons, List.length_nil, List.length_map, List.any_cons, List.any_nil, id, if_true, if_false, Bool.not_true, Bool.not_false, Bool.or_false, Bool.false_or, Bool.or_true, Bool.true_or, Bool.and_true, Bool.true_and, Bool.and_false, Bool.false_and, Option.map_some, Option.map_none, decide_true, decide_false, String.reduceEq, reduceIte, Nat.reduceAdd, Int.reduceLT, Int.reduceLE, Nat.reduceLeDiff, Bool.false_eq_true, reduceCtorEq, not_false_eq_true, not_true_eq_false, decide_not], by simp only [Qa, Qb, Qc, Qd, Qe, Qf, retS, nxt, asgN, asgT, Qg, Qh, Qi, Qj, Qk, Ql, Qm, Qn, ne_eq, binR, Qo, Qp, subI, subS, noneE, listD, tupD, Qq, Qr, callP, callQ, Qs, Qt, Qu, Qv, callLen, Qw, Qx, Qy, Qz, QA, QB, QC, QD, QE, QF, QG, QH, QI, QJ, QK, QL, QM, QN, QO, QP, QQ, QR, QS, tob, QT, notB, notV, QU, QV, QW, QX, QY, QZ, Q0, cond_true, cond_false, isR, Q1, Q2, Q3, Q4, Q5, isTup, isLis, isStr, isInt, isBoo, updTup, updAll, updName, Q6, Q7, Q8, Q9, Za, Zb, Zc, Zd, Ze, Zf, Zg, sz0, sz1, sz2, sz3, sz4, sz5, Zh, Zi, Zj, List.map_cons, List.map_nil, List.length_cons, List.length_nil, List.length_map, List.any_cons, List.any_nil, id, if_true, if_false, Bool.not_true, Bool.not_false, Bool.or_false, Bool.false_or, Bool.or_true, Bool.true_or, Bool.and_true, Bool.true_and, Bool.and_false, Bool.false_and, Option.map_some, Option.map_none, decide_true, decide_false, String.reduceEq, reduceIte, Nat.reduceAdd, Int.reduceLT, Int.reduceLE, Nat.reduceLeDiff, Bool.false_eq_true, reduceCtorEq, not_false_eq_true, not_true_eq_false, decide_not]⟩, h2.mono (by lia)⟩
      simp only [s_law_b1, lkp_some E.sc, lkp_some E.pl, c1, c2, h1', Qa, Qb, Qc, Qd, Qe, Qf, retS, nxt, asgN, asgT, Qg, Qh, Qi, Qj, Qk, Ql, Qm, Qn, ne_eq, binR, Qo, Qp, subI, subS, noneE, listD, tupD, Qq, Qr, callP, callQ, Qs, Qt, Qu, Qv, callLen, Qw, Qx, Qy, Qz, QA, QB, QC, QD, QE, QF, QG, QH, QI, QJ, QK, QL, QM, QN, QO, QP, QQ, QR, QS, tob, QT, notB, notV, QU, QV, QW, QX, QY, QZ, Q0, cond_true, cond_false, isR, Q1, Q2, Q3, Q4, Q5, isTup, isLis, isStr, isInt, isBoo, updTup, updAll, updName, Q6, Q7, Q8, Q9, Za, Zb, Zc, Zd, Ze, Zf, Zg, sz0, sz1, sz2, sz3, sz4, sz5, Zh, Zi, Zj, List.map_cons, List.map_nil, List.length_cons, List.length_nil, List.length_map, List.any_cons, List.any_nil, id, if_true, if_false, Bool.not_true, Bool.not_false, Bool.or_false, Bool.false_or, Bool.or_true, Bool.true_or, Bool.and_true, Bool.true_and, Bool.and_false, Bool.false_and, Option.map_some, Option.map_none, decide_true, decide_false, String.reduceEq, reduceIte, Nat.reduceAdd, Int.reduceLT, Int.reduceLE, Nat.reduceLeDiff, Bool.false_eq_true, reduceCtorEq, not_false_eq_true, not_true_eq_false, decide_not])
  rw [rangeL_len] at z
  have zb : Sz 700 b s := z.mono (by lia)
  obtain ⟨H1, r1⟩ := right_eval n 0 [] zb
  obtain ⟨H2, r2⟩ := right_eval n 0 H1 (z0.mono (by lia))
  obtain ⟨H3, r3⟩ := right_eval n 0 H2 zb
  refine ⟨H3, ?_⟩
  rw [a1, s_law_k4, l1, Qc]
  simp only [s_law_k3, lkp_some E'.pl, lkp_some E'.rh, r1, r2, r3, Qa, Qb, Qc, Qd, Qe, Qf, retS, nxt, asgN, asgT, Qg, Qh, Qi, Qj, Qk, Ql, Qm, Qn, ne_eq, binR, Qo, Qp, subI, subS, noneE, listD, tupD, Qq, Qr, callP, callQ, Qs, Qt, Qu, Qv, callLen, Qw, Qx, Qy, Qz, QA, QB, QC, QD, QE, QF, QG, QH, QI, QJ, QK, QL, QM, QN, QO, QP, QQ, QR, QS, tob, QT, notB, notV, QU, QV, QW, QX, QY, QZ, Q0, cond_true, cond_false, isR, Q1, Q2, Q3, Q4, Q5, isTup, isLis, isStr, isInt, isBoo, updTup, updAll, updName, Q6, Q7, Q8, Q9, Za, Zb, Zc, Zd, Ze, Zf, Zg, sz0, sz1, sz2, sz3, sz4, sz5, Zh, Zi, Zj, List.map_cons, List.map_nil, List.length_cons, List.length_nil, List.length_map, List.any_cons, List.any_nil, id, if_true, if_false, Bool.not_true, Bool.not_false, Bool.or_false, Bool.false_or, Bool.or_true, Bool.true_or, Bool.and_true, Bool.true_and, Bool.and_false, Bool.false_and, Option.map_some, Option.map_none, decide_true, decide_false, String.reduceEq, reduceIte, Nat.reduceAdd, Int.reduceLT, Int.reduceLE, Nat.reduceLeDiff, Bool.false_eq_true, reduceCtorEq, not_false_eq_true, not_true_eq_false, decide_not]
end Mine

theorem PySem.Challenge.cw_uf040021_01_holds : PySem.Challenge.rw_uf040021_01.Holds := by
  w_on; o_law; o_head (Mine.hookOf Mine.excT Mine.subT); (case hw => w_witness2)
  exact (Mine.walk_of Mine.CC 60 rfl rfl (by decide) (by decide) (by kernel_rfl) (by decide +kernel) (by decide +kernel) (by decide +kernel) (by decide +kernel) (by decide +kernel) (fun ns _ => Mine.law_eval 54 ns))
