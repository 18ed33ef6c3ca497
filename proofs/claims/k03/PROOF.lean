import PyProof.Rows.All
import Wide.All
import OpenK.AllK
import Wide.FinOn
import KE.KStateDown
import HandS.ForMost
import HandS.ForExc
import HandS.Flow
import HandS.IsInst
import HandS.Wide
import HandS.TupAny
import HandS.Conv
import HandS.TryMany
import HandS.CallSlots
import HandS.ExcInit
import HandS.ExcField
import HandS.Defaults
import HandS.Head0
import HandS.Head1
import HandS.Head2
import HandS.HeadEnd
import HandS.HeadHook1
import HandS.HeadHook2
import HandS.EndBits
import KE.KFmtOwn
import PyProof.InstNe
import HandS.SlotsOwn
import HandS.FStr
import HandS.Style
import HandS.ClsMeth
import HandS.Words
import PySem.Challenge.RW_tetraroads_k03_whole_numbers_with_a_root
set_option Elab.async false
set_option linter.all false
set_option maxRecDepth 100000
/-! ## The machine: a small interpreter of a part of Python, in plain Lean -/
namespace Mch
open PySem

/-- values: tuples and own objects are trees; lists and dicts stand in the memory -/
inductive MV where
  | non | bl (b : Bool) | int (i : Int) | str (x : Str) | tup (xs : List MV) | ref (i : Nat) | obj (c : Nat) (vs : List MV) | fn (f : Nat)
  | rng (lo : Int) (n : Nat) (st : Int) | zp (a b : MV) | en (a : MV) | exn (c : Nat) (vs : List MV)
  deriving Inhabited
inductive Cell where
  | lst (xs : List MV) | frz (xs : List MV) | dct (kvs : List (MV × MV))
abbrev Mem := List Cell
/-- an exception: its class, its fields -/
structure MX where
  c : Nat
  vs : List MV
inductive R (α : Type) where
  | ok (a : α) (μ : Mem) | exc (x : MX) (μ : Mem) | no
def R.bind {α β : Type} : R α → (α → Mem → R β) → R β
  | .ok a μ, f => f a μ
  | .exc x μ, _ => .exc x μ
  | .no, _ => .no
def R.opt {α : Type} (o : Option α) (μ : Mem) : R α := match o with
  | some a => .ok a μ
  | none => .no

/-! ### the syntax -/
inductive TyR where
  | int | bool | str | list | tuple | dict | cls (c : Nat)
  deriving DecidableEq
inductive BI where
  | abs | len | all | any | int | str | tuple | list | sum | min | max
  deriving DecidableEq
inductive Mt where
  | append | join
  deriving DecidableEq
inductive E where
  | non | bl (b : Bool) | int (i : Int) | str (x : Str) | var (i : Nat) | fn (f : Nat) | gc (k : Nat)
  | neg (a : E) | not (a : E) | bin (op : Operator) (a b : E) | cmp (op : CmpOp) (a b : E) | cmp2 (o1 o2 : CmpOp) (a b c : E)
  | and (a b : E) | or (a b : E) | ite (c a b : E) | tup (as : List E) | lst (as : List E)
  | fld (a : E) (f : Str) | xfld (i : Nat) (f : Str) | idx (a b : E) | slc (a lo hi : E)
  | call (f : Nat) (as : List E) | callv (i : Nat) (as : List E) | mk (c : Nat) (as : List E)
  | bi (b : BI) (as : List E) | mth (m : Mt) (o : E) (as : List E) | omth (m : Str) (o : E) (as : List E) | isin (a : E) (ts : List TyR)
  | comp (elt tg it cond : E) (own : List Nat) | comp2 (elt tg it cond tg1 it1 cond1 : E) (own own1 : List Nat)
  | rng (as : List E) | zip (a b : E) | enum (a : E)
  | obin (op : Operator) (a b : E) | oneg (a : E) | ocmp (op : CmpOp) (a b : E) | ostr (a : E) | fmt (a : E) | fstr (as : List E)
  | cdx (k : Nat) (a : E)
inductive S where
  | asg (t e : E) | setf (f : Str) (e : E) | expr (e : E) | ite (c : E) (a b : List S) | while (c : E) (b : List S) | for (t it : E) (b : List S)
  | ret (e : E) | retN | raise (c : Nat) (as : List E) | brk | cnt | pass
  | try1 (b : List S) (c : Nat) (n : Option Nat) (h : List S) | try2 (b : List S) (c : Nat) (n : Option Nat) (h : List S) (c' : Nat) (n' : Option Nat) (h' : List S)
structure ClsM where
  fields : List Str
  init : Option Nat
  meths : List (Str × Nat)
  /-- the classes of the program above it, itself too -/
  up : List Nat := []
  /-- a class of exceptions -/
  exc : Bool := false
structure Def where
  np : Nat
  dfl : List MV
  ns : Nat
  body : List S
structure Prog where
  defs : List Def
  clss : List ClsM
  consts : List MV := []
  /-- dicts of the top: ints by ints -/
  dcs : List (List (Int × Int)) := []
structure Tab where
  P : Prog
  n : Nat
  call : Nat → List MV → Mem → R MV
  make : Nat → List MV → Mem → R MV
abbrev Env := List (Option MV)

/-! ### values -/
def lstAt (μ : Mem) (i : Nat) : Option (List MV) := match μ[i]? with
  | some (.lst xs) => some xs
  | some (.frz xs) => some xs
  | _ => none
def newL (xs : List MV) (μ : Mem) : R MV := if xs.length ≤ sizeLine then .ok (.ref μ.length) (μ ++ [.lst xs]) else .no
def newT (xs : List MV) (μ : Mem) : R MV := if xs.length ≤ sizeLine then .ok (.tup xs) μ else .no
/-- the place that an index of any sign means -/
def ixM (n : Nat) (i : Int) : Option Nat := if 0 ≤ i then (if i < n then some i.toNat else none) else if -(n : Int) ≤ i then some (i + n).toNat else none
def sIxM (n d : Nat) : Option Int → Nat
  | none => d
  | some v => if v < 0 then (v + (n : Int)).toNat else min v.toNat n
def cutM {α : Type} (xs : List α) (lo hi : Option Int) : List α := (xs.drop (sIxM xs.length 0 lo)).take (sIxM xs.length xs.length hi - sIxM xs.length 0 lo)

/-- the values of a list, by f -/
def toDs (f : MV → Option PyData) : List MV → Option (List PyData)
  | [] => some []
  | x :: xs => match f x, toDs f xs with
    | some d, some ds => some (d :: ds)
    | _, _ => none
/-- a value as data: None, bools, ints, texts, tuples, lists -/
def toD (μ : Mem) : Nat → MV → Option PyData
  | 0, _ => none
  | n + 1, x => match x with
    | .non => some .none
    | .bl b => some (.bool b)
    | .int i => some (.int i)
    | .str s => if PyData.strOk s then some (.str s) else none
    | .tup xs => (toDs (toD μ n) xs).map .tuple
    | .ref i => (match lstAt μ i with
      | some xs => (toDs (toD μ n) xs).map .list
      | none => none)
    | _ => none
def eqM (μ : Mem) (x y : MV) : Option Bool := match toD μ 40 x, toD μ 40 y with
  | some d, some e => some (PyData.eqv d e)
  | _, _ => none
def flatM : MV → Bool
  | .non => true
  | .bl _ => true
  | .int _ => true
  | .str _ => true
  | _ => false
def eqF : MV → MV → Bool
  | .non, .non => true
  | .bl a, .bl b => a == b
  | .bl a, .int b => (if a then 1 else 0) == b
  | .int a, .bl b => a == (if b then 1 else 0)
  | .int a, .int b => a == b
  | .str a, .str b => a == b
  | _, _ => false
def inM (μ : Mem) (x y : MV) : Option Bool :=
  match (match y with
    | .tup xs => some xs
    | .ref i => lstAt μ i
    | _ => none) with
  | some xs => if flatM x && xs.all flatM then some (xs.any fun z => eqF z x) else none
  | none => none
def cmpM (μ : Mem) : CmpOp → MV → MV → Option Bool
  | .Eq, x, y => eqM μ x y
  | .NotEq, x, y => (eqM μ x y).map (!·)
  | .Lt, .int a, .int b => some (decide (a < b))
  | .LtE, .int a, .int b => some (decide (a ≤ b))
  | .Gt, .int a, .int b => some (decide (b < a))
  | .GtE, .int a, .int b => some (decide (b ≤ a))
  | .LtE, .str a, .str b => some (!decide (b.cps.toList < a.cps.toList))
  | .Lt, .str a, .str b => some (decide (a.cps.toList < b.cps.toList))
  | .Is, .non, .non => some true
  | .Is, _, .non => some false
  | .IsNot, .non, .non => some false
  | .IsNot, _, .non => some true
  | .In, x, y => inM μ x y
  | .NotIn, x, y => (inM μ x y).map (!·)
  | _, _, _ => none
def truM (μ : Mem) : MV → Option Bool
  | .non => some false
  | .bl b => some b
  | .int i => some (i != 0)
  | .str s => if s.length ≤ sizeLine then some ((s.length : Int) != 0) else none
  | .tup xs => some (!xs.isEmpty)
  | .ref i => (lstAt μ i).map fun xs => !xs.isEmpty
  | _ => none
def mulOk (i j : Int) : Bool := (decide (-(2 ^ 64) < i) && decide (i < 2 ^ 64)) || (decide (-(2 ^ 64) < j) && decide (j < 2 ^ 64)) || decide (i.natAbs.log2 + j.natAbs.log2 < 1000000)
def divOk (j : Int) : Bool := decide (j ≠ 0) && (decide (j.natAbs < 1073741824) || (decide (0 < j) && decide (j.natAbs.log2 < 9000)))
def binM (μ : Mem) : Operator → MV → MV → R MV
  | .Add, .int a, .int b => .ok (.int (a + b)) μ
  | .Add, .str a, .str b => if a.length + b.length ≤ sizeLine then .ok (.str (a ++ b)) μ else .no
  | .Add, .tup a, .tup b => newT (a ++ b) μ
  | .Add, .ref i, .ref j => (match μ[i]?, μ[j]? with
    | some (.lst a), some (.lst b) => newL (a ++ b) μ
    | _, _ => .no)
  | .Sub, .int a, .int b => .ok (.int (a - b)) μ
  | .Mult, .ref i, .int n => (match μ[i]? with
    | some (.lst a) => if -(2 ^ 62) ≤ n ∧ n < 2 ^ 62 ∧ a.length * n.toNat ≤ sizeLine then newL (List.replicate n.toNat a).flatten μ else .no
    | _ => .no)
  | .Mult, .int a, .int b => if mulOk a b then .ok (.int (a * b)) μ else .no
  | .FloorDiv, .int a, .int b => if divOk b then .ok (.int (a.fdiv b)) μ else .no
  | .Mod, .int a, .int b => if b ≠ 0 then .ok (.int (a.fmod b)) μ else .no
  | _, _, _ => .no
def idxM (μ : Mem) : MV → MV → Option MV
  | .tup xs, .int i => (ixM xs.length i).bind fun j => xs[j]?
  | .ref a, .int i => (lstAt μ a).bind fun xs => (ixM xs.length i).bind fun j => xs[j]?
  | .str s, .int i => if s.length ≤ sizeLine then (ixM s.cps.toList.length i).bind fun j => (s.cps.toList[j]?).map fun c => .str ⟨#[c]⟩ else none
  | _, _ => none
def slcM (μ : Mem) (x : MV) (lo hi : Option Int) : R MV := match x with
  | .tup xs => newT (cutM xs lo hi) μ
  | .ref a => (match lstAt μ a with
    | some xs => newL (cutM xs lo hi) μ
    | none => .no)
  | .str s => if s.length ≤ sizeLine then .ok (.str ⟨(cutM s.cps.toList lo hi).toArray⟩) μ else .no
  | _ => .no
def E.isNon : E → Bool
  | .non => true
  | _ => false
def partR (n : Bool) (r : R MV) (μ : Mem) : R (Option Int) := if n then .ok none μ else r.bind fun v μ => match v with
  | .int i => .ok (some i) μ
  | _ => .no
/-- xs[i] = v -/
def setM (μ : Mem) : MV → MV → MV → R Unit
  | .ref a, .int i, v => (match μ[a]? with
    | some (.lst xs) => (match ixM xs.length i with
      | some j => .ok () (μ.set a (.lst (xs.set j v)))
      | none => .no)
    | _ => .no)
  | _, _, _ => .no
/-- the i-th thing that is walked -/
def nth (μ : Mem) : MV → Nat → Option (Option MV)
  | .tup xs, i => some xs[i]?
  | .ref a, i => (lstAt μ a).map (·[i]?)
  | .rng lo n st, i => some (if i < n then some (.int (lo + i * st)) else none)
  | .zp a b, i => (match nth μ a i, nth μ b i with
    | some (some x), some (some y) => some (some (.tup [x, y]))
    | some _, some _ => some none
    | _, _ => none)
  | .en a, i => (match nth μ a i with
    | some (some x) => some (some (.tup [.int i, x]))
    | some none => some none
    | none => none)
  | _, _ => none
def itM (μ : Mem) : MV → R MV
  | .tup xs => .ok (.tup xs) μ
  | .ref a => (match lstAt μ a with
    | some _ => .ok (.ref a) μ
    | none => .no)
  | .rng lo n st => .ok (.rng lo n st) μ
  | .zp a b => .ok (.zp a b) μ
  | .en a => .ok (.en a) μ
  | _ => .no
def rngM (μ : Mem) : List MV → R MV
  | [.int a] => if -(2 ^ 62) ≤ a ∧ a < 2 ^ 62 then .ok (.rng 0 a.toNat 1) μ else .no
  | [.int a, .int b] => if -(2 ^ 62) ≤ a ∧ a < 2 ^ 62 ∧ -(2 ^ 62) ≤ b ∧ b < 2 ^ 62 then .ok (.rng a (b - a).toNat 1) μ else .no
  | _ => .no
def bls : List MV → Option (List Bool)
  | [] => some []
  | .bl b :: r => (bls r).map (b :: ·)
  | _ => none
def strs' : List MV → Option (List Str)
  | [] => some []
  | .str b :: r => (strs' r).map (b :: ·)
  | _ => none
def biM (μ : Mem) : BI → List MV → R MV
  | .abs, [.int a] => .ok (.int (if a < 0 then -a else a)) μ
  | .len, [.str s] => if s.length ≤ sizeLine then .ok (.int s.length) μ else .no
  | .len, [.tup xs] => .ok (.int xs.length) μ
  | .len, [.ref a] => (match lstAt μ a with
    | some xs => .ok (.int xs.length) μ
    | none => .no)
  | .all, [.ref a] => (match (lstAt μ a).bind bls with
    | some bs => .ok (.bl (bs.all _root_.id)) μ
    | none => .no)
  | .any, [.ref a] => (match (lstAt μ a).bind bls with
    | some bs => .ok (.bl (bs.any _root_.id)) μ
    | none => .no)
  | .int, [.int a] => .ok (.int a) μ
  | .int, [.bl b] => .ok (.int (if b then 1 else 0)) μ
  | .str, [.int a] => if a.natAbs.log2 < 1920 then .ok (.str (toString a : String)) μ else .no
  | .tuple, [.ref a] => (match lstAt μ a with
    | some xs => .ok (.tup xs) μ
    | none => .no)
  | .tuple, [.tup xs] => .ok (.tup xs) μ
  | .list, [.ref a] => (match lstAt μ a with
    | some xs => newL xs μ
    | none => .no)
  | .list, [.tup xs] => newL xs μ
  | _, _ => .no
/-- the receiver is of the method's type -/
def mthTy (μ : Mem) : Mt → MV → Bool
  | .append, .ref a => (lstAt μ a).isSome
  | .join, .str _ => true
  | _, _ => false
def mthM (μ : Mem) : Mt → MV → List MV → R MV
  | .append, .ref a, [v] => (match μ[a]? with
    | some (.lst xs) => if xs.length < sizeLine then .ok .non (μ.set a (.lst (xs ++ [v]))) else .no
    | _ => .no)
  | .join, .str s, [.ref a] => (match (lstAt μ a).bind strs' with
    | some ys => if (ys.map (·.length)).sum + ys.length * s.length ≤ 16777216 then .ok (.str (Txt.join s ys)) μ else .no
    | none => .no)
  | _, _, _ => .no
def tyM (P : Prog) (μ : Mem) (x : MV) : TyR → Option Bool
  | .cls c => (match x with
    | .obj d _ => (match P.clss[d]? with
      | some Cl => if Cl.exc then none else some (decide (c ∈ Cl.up))
      | none => none)
    | .non => some false
    | .bl _ => some false
    | .int _ => some false
    | .str _ => some false
    | .tup _ => some false
    | .ref a => (lstAt μ a).map fun _ => false
    | _ => none)
  | t => (match x with
    | .non => some false
    | .bl _ => some (decide (t = .bool ∨ t = .int))
    | .int _ => some (decide (t = .int))
    | .str _ => some (decide (t = .str))
    | .tup _ => some (decide (t = .tuple))
    | .ref a => (lstAt μ a).map fun _ => decide (t = .list)
    | .obj d _ => (match P.clss[d]? with
      | some Cl => if Cl.exc then none else some false
      | none => none)
    | _ => none)
def tysM (P : Prog) (μ : Mem) (x : MV) : List TyR → Option Bool
  | [] => some false
  | t :: ts => match tyM P μ x t with
    | some true => some true
    | some false => tysM P μ x ts
    | none => none
def opName : Operator → Str
  | .Add => "__add__"
  | .Sub => "__sub__"
  | .Mult => "__mul__"
  | _ => "-"
def methOf (P : Prog) (c : Nat) (m : Str) : Option Nat := (P.clss[c]?).bind fun C => if C.exc then none else C.meths.lookup m
/-! ### operators on own objects -/
/-- what may stand at the other side of an operator of an object of the class c -/
def othB (c : Nat) (μ : Mem) : MV → Bool
  | .non => true
  | .bl _ => true
  | .int _ => true
  | .str _ => true
  | .tup _ => true
  | .ref a => (lstAt μ a).isSome
  | .obj d _ => d == c
  | _ => false
/-- .. of a comparison -/
def othC (P : Prog) (c : Nat) (μ : Mem) : MV → Bool
  | .obj d _ => d == c || (match P.clss[d]? with
    | some D => !D.exc && !(D.up.contains c)
    | none => false)
  | v => othB c μ v
def cmName : CmpOp → Option Str
  | .Eq => some "__eq__"
  | .Lt => some "__lt__"
  | .LtE => some "__le__"
  | .Gt => some "__gt__"
  | .GtE => some "__ge__"
  | _ => none
def binT (T : Tab) (μ : Mem) (op : Operator) (x y : MV) : R MV := match x with
  | .obj c vs => (match methOf T.P c (opName op) with
    | some f => if othB c μ y then T.call f [.obj c vs, y] μ else .no
    | none => .no)
  | x => binM μ op x y
def negT (T : Tab) (μ : Mem) (x : MV) : R MV := match x with
  | .obj c vs => (match methOf T.P c "__neg__" with
    | some f => T.call f [.obj c vs] μ
    | none => .no)
  | .int i => .ok (.int (-i)) μ
  | _ => .no
def notEqO : CmpOp → Bool
  | .NotEq => true
  | _ => false
def cmpT (T : Tab) (μ : Mem) (op : CmpOp) (x y : MV) : R Bool := match x with
  | .obj c vs => if notEqO op then (match methOf T.P c "__eq__" with
    | some f => if (methOf T.P c "__ne__").isNone && othC T.P c μ y then (T.call f [.obj c vs, y] μ).bind fun r μ => (match r with
      | .bl k => .ok (!k) μ
      | _ => .no) else .no
    | none => .no) else (match (cmName op).bind (methOf T.P c) with
    | some f => if othC T.P c μ y then (T.call f [.obj c vs, y] μ).bind fun r μ => (match r with
      | .bl k => .ok k μ
      | _ => .no) else .no
    | none => .no)
  | x => R.opt (cmpM μ op x y) μ
def strT (T : Tab) (μ : Mem) (x : MV) : R MV := match x with
  | .obj c vs => (match methOf T.P c "__str__" with
    | some f => (T.call f [.obj c vs] μ).bind fun r μ => (match r with
      | .str s => .ok (.str s) μ
      | _ => .no)
    | none => .no)
  | x => biM μ .str [x]
/-- a value in an f-string -/
def fmtM (μ : Mem) : MV → R MV
  | .str s => if s.length ≤ sizeLine then .ok (.str s) μ else .no
  | .int a => if a.natAbs.log2 < 1920 then .ok (.str (toString a : String)) μ else .no
  | _ => .no

def fmtT (T : Tab) (μ : Mem) (x : MV) : R MV := match x with
  | .obj c vs => strT T μ (.obj c vs)
  | x => fmtM μ x

/-! ### running -/
/-- storing into names: a name, a tuple of names -/
def bindT : E → MV → Env → Option Env
  | .var i, v, σ => some (σ.set i (some v))
  | .tup ts, v, σ => (match v with
    | .tup xs => if xs.length = ts.length then go ts xs σ else none
    | _ => none)
  | _, _, _ => none
where
  go : List E → List MV → Env → Option Env
    | [], [], σ => some σ
    | t :: ts, x :: xs, σ => (bindT t x σ).bind fun σ' => go ts xs σ'
    | _, _, _ => none
def wipeM (σ : Env) : List Nat → Env
  | [] => σ
  | v :: vs => (wipeM σ vs).set v none
def compL (it : MV) (body : List MV → MV → Mem → R (List MV)) : Nat → Nat → List MV → Mem → R (List MV)
  | 0, _, _, _ => .no
  | n + 1, i, acc, μ => match nth μ it i with
    | some (some x) => (body acc x μ).bind fun acc' μ' => compL it body n (i + 1) acc' μ'
    | some none => .ok acc μ
    | none => .no
def putL (acc : List MV) (v : MV) (μ : Mem) : R (List MV) := if acc.length < sizeLine then .ok (acc ++ [v]) μ else .no
/-- inside a comprehension nothing is raised -/
def R.calm {α : Type} : R α → R α
  | .exc _ _ => .no
  | r => r
def truR (v : MV) (μ : Mem) : R Bool := R.opt (truM μ v) μ

mutual
def evE (T : Tab) : E → Env → Mem → R MV
  | .non, _, μ => .ok .non μ
  | .bl b, _, μ => .ok (.bl b) μ
  | .int i, _, μ => .ok (.int i) μ
  | .str x, _, μ => .ok (.str x) μ
  | .var i, σ, μ => (match σ[i]? with
    | some (some v) => .ok v μ
    | _ => .no)
  | .fn f, _, μ => .ok (.fn f) μ
  | .gc k, _, μ => R.opt T.P.consts[k]? μ
  | .neg a, σ, μ => (evE T a σ μ).bind fun x μ => (match x with
    | .int i => .ok (.int (-i)) μ
    | _ => .no)
  | .not a, σ, μ => (evE T a σ μ).bind fun x μ => (truR x μ).bind fun b μ => .ok (.bl (!b)) μ
  | .bin op a b, σ, μ => (evE T a σ μ).bind fun x μ => (evE T b σ μ).bind fun y μ => binM μ op x y
  | .cmp op a b, σ, μ => (evE T a σ μ).bind fun x μ => (evE T b σ μ).bind fun y μ => (R.opt (cmpM μ op x y) μ).bind fun k μ => .ok (.bl k) μ
  | .cmp2 o1 o2 a b c, σ, μ => (evE T a σ μ).bind fun x μ => (evE T b σ μ).bind fun y μ => (R.opt (cmpM μ o1 x y) μ).bind fun k μ =>
      if k then (evE T c σ μ).bind fun z μ => (R.opt (cmpM μ o2 y z) μ).bind fun k μ => .ok (.bl k) μ else .ok (.bl false) μ
  | .and a b, σ, μ => (evE T a σ μ).bind fun x μ => (truR x μ).bind fun k μ => if k then evE T b σ μ else .ok x μ
  | .or a b, σ, μ => (evE T a σ μ).bind fun x μ => (truR x μ).bind fun k μ => if k then .ok x μ else evE T b σ μ
  | .ite c a b, σ, μ => (evE T c σ μ).bind fun x μ => (truR x μ).bind fun k μ => if k then evE T a σ μ else evE T b σ μ
  | .tup as, σ, μ => (evEs T as σ μ).bind fun xs μ => newT xs μ
  | .lst as, σ, μ => (evEs T as σ μ).bind fun xs μ => newL xs μ
  | .fld a f, σ, μ => (evE T a σ μ).bind fun x μ => (match x with
    | .obj c vs => R.opt ((T.P.clss[c]?).bind fun C => if C.init.isSome then (C.fields.idxOf? f).bind fun j => vs[j]? else none) μ
    | _ => .no)
  | .xfld i f, σ, μ => (match (σ[i]? : Option (Option MV)) with
    | some (some (MV.exn c vs)) => R.opt ((T.P.clss[c]?).bind fun C => if C.exc = false then none else (C.fields.idxOf? f).bind fun j => vs[j]?) μ
    | _ => .no)
  | .idx a b, σ, μ => (evE T a σ μ).bind fun x μ => (evE T b σ μ).bind fun y μ => R.opt (idxM μ x y) μ
  | .slc a lo hi, σ, μ => (evE T a σ μ).bind fun x μ => (partR lo.isNon (evE T lo σ μ) μ).bind fun l μ => (partR hi.isNon (evE T hi σ μ) μ).bind fun h μ => slcM μ x l h
  | .call f as, σ, μ => (evEs T as σ μ).bind fun xs μ => T.call f xs μ
  | .callv i as, σ, μ => (match σ[i]? with
    | some (some (.fn f)) => (evEs T as σ μ).bind fun xs μ => T.call f xs μ
    | _ => .no)
  | .mk c as, σ, μ => (evEs T as σ μ).bind fun xs μ => T.make c xs μ
  | .bi b as, σ, μ => (evEs T as σ μ).bind fun xs μ => biM μ b xs
  | .mth m o as, σ, μ => (evE T o σ μ).bind fun x μ => if mthTy μ m x then (evEs T as σ μ).bind fun xs μ => mthM μ m x xs else .no
  | .omth m o as, σ, μ => (evE T o σ μ).bind fun x μ => (match x with
    | .obj c vs => (match methOf T.P c m with
      | some f => (evEs T as σ μ).bind fun xs μ => T.call f (.obj c vs :: xs) μ
      | none => .no)
    | _ => .no)
  | .isin a ts, σ, μ => (evE T a σ μ).bind fun x μ => (R.opt (tysM T.P μ x ts) μ).bind fun k μ => .ok (.bl k) μ
  | .comp elt tg it cond own, σ, μ => (evE T it σ μ).bind fun J μ => (itM μ J).bind fun J μ =>
      (compL J (fun acc x μ => (R.opt (bindT tg x (wipeM σ own)) μ).bind fun σ1 μ => R.calm ((evE T cond σ1 μ).bind fun k μ => (truR k μ).bind fun k μ =>
        if k then (evE T elt σ1 μ).bind fun v μ => putL acc v μ else .ok acc μ)) T.n 0 [] μ).bind fun xs μ => newL xs μ
  | .comp2 elt tg it cond tg1 it1 cond1 own own1, σ, μ => (evE T it σ μ).bind fun J μ => (itM μ J).bind fun J μ =>
      (compL J (fun acc x μ => (R.opt (bindT tg x (wipeM σ own)) μ).bind fun σ1 μ => R.calm ((evE T cond σ1 μ).bind fun k μ => (truR k μ).bind fun k μ =>
        if k then (evE T it1 σ1 μ).bind fun J1 μ => (itM μ J1).bind fun J1 μ =>
          compL J1 (fun acc x μ => (R.opt (bindT tg1 x (wipeM σ1 own1)) μ).bind fun σ2 μ => (evE T cond1 σ2 μ).bind fun k μ => (truR k μ).bind fun k μ =>
            if k then (evE T elt σ2 μ).bind fun v μ => putL acc v μ else .ok acc μ) T.n 0 acc μ
        else .ok acc μ)) T.n 0 [] μ).bind fun xs μ => newL xs μ
  | .rng as, σ, μ => (evEs T as σ μ).bind fun xs μ => rngM μ xs
  | .obin op a b, σ, μ => (evE T a σ μ).bind fun x μ => (evE T b σ μ).bind fun y μ => binT T μ op x y
  | .oneg a, σ, μ => (evE T a σ μ).bind fun x μ => negT T μ x
  | .ocmp op a b, σ, μ => (evE T a σ μ).bind fun x μ => (evE T b σ μ).bind fun y μ => (cmpT T μ op x y).bind fun k μ => .ok (.bl k) μ
  | .ostr a, σ, μ => (evE T a σ μ).bind fun x μ => strT T μ x
  | .fmt a, σ, μ => (evE T a σ μ).bind fun x μ => fmtT T μ x
  | .cdx k a, σ, μ => (evE T a σ μ).bind fun x μ => (match x with
    | .int i => R.opt ((T.P.dcs[k]?).bind fun D => (D.lookup i).map .int) μ
    | _ => .no)
  | .fstr as, σ, μ => (evF T as Str.empty σ μ).bind fun y μ => .ok (.str y) μ
  | .zip a b, σ, μ => (evE T a σ μ).bind fun x μ => (evE T b σ μ).bind fun y μ => (itM μ x).bind fun x μ => (itM μ y).bind fun y μ => .ok (.zp x y) μ
  | .enum a, σ, μ => (evE T a σ μ).bind fun x μ => (itM μ x).bind fun x μ => .ok (.en x) μ
def evEs (T : Tab) : List E → Env → Mem → R (List MV)
  | [], _, μ => .ok [] μ
  | e :: es, σ, μ => (evE T e σ μ).bind fun x μ => (evEs T es σ μ).bind fun xs μ => .ok (x :: xs) μ
/-- an f-string's texts, one behind another -/
def evF (T : Tab) : List E → Str → Env → Mem → R Str
  | [], acc, _, μ => .ok acc μ
  | e :: es, acc, σ, μ => (evE T e σ μ).bind fun x μ => (match x with
    | .str y => if (acc ++ y).length ≤ sizeLine then evF T es (acc ++ y) σ μ else .no
    | _ => .no)
end

/-- how a statement ends -/
inductive Fl where
  | next (σ : Env) | ret (v : MV) | brk (σ : Env) | cnt (σ : Env)
inductive RS where
  | ok (f : Fl) (μ : Mem) | exc (x : MX) (σ : Env) (μ : Mem) | no
def R.stm {α : Type} (σ : Env) : R α → (α → Mem → RS) → RS
  | .ok a μ, k => k a μ
  | .exc x μ, _ => .exc x σ μ
  | .no, _ => .no
/-- behind a statement that goes on -/
def RS.go : RS → (Env → Mem → RS) → RS
  | .ok (.next σ) μ, k => k σ μ
  | r, _ => r
/-- behind a loop's turn -/
def RS.turn : RS → (Env → Mem → RS) → RS
  | .ok (.next σ) μ, k => k σ μ
  | .ok (.cnt σ) μ, k => k σ μ
  | .ok (.brk σ) μ, _ => .ok (.next σ) μ
  | r, _ => r
def asgT (T : Tab) : E → MV → Env → Mem → R Env
  | .var i, v, σ, μ => .ok (σ.set i (some v)) μ
  | .tup ts, v, σ, μ => (match v with
    | .tup xs => if xs.length = ts.length then go T ts xs σ μ else .no
    | .ref a => (match lstAt μ a with
      | some xs => if xs.length = ts.length then go T ts xs σ μ else .no
      | none => .no)
    | _ => .no)
  | .idx a b, v, σ, μ => (evE T a σ μ).bind fun x μ => (evE T b σ μ).bind fun y μ => (setM μ x y v).bind fun _ μ => .ok σ μ
  | _, _, _, _ => .no
where
  go (T : Tab) : List E → List MV → Env → Mem → R Env
    | [], [], σ, μ => .ok σ μ
    | t :: ts, x :: xs, σ, μ => (asgT T t x σ μ).bind fun σ μ => go T ts xs σ μ
    | _, _, _, _ => .no
def whileL (c : Env → Mem → R Bool) (b : Env → Mem → RS) : Nat → Env → Mem → RS
  | 0, _, _ => .no
  | n + 1, σ, μ => (c σ μ).stm σ fun k μ => if k then (b σ μ).turn fun σ μ => whileL c b n σ μ else .ok (.next σ) μ
def forL (it : MV) (g : MV → Env → Option Env) (b : Env → Mem → RS) : Nat → Nat → Env → Mem → RS
  | 0, _, _, _ => .no
  | n + 1, i, σ, μ => match nth μ it i with
    | some (some x) => (match g x σ with
      | some σ => (b σ μ).turn fun σ μ => forL it g b n (i + 1) σ μ
      | none => .no)
    | some none => .ok (.next σ) μ
    | none => .no
/-- is an exception of that class one of this -/
def isX (P : Prog) (x : MX) (c : Nat) : Option Bool := match P.clss[x.c]? with
  | some C => if C.exc then some (decide (c ∈ C.up)) else none
  | none => none
/-- an except suite, with the name that it binds -/
def suite (n : Option Nat) (h : Env → Mem → RS) (x : MX) (σ : Env) (μ : Mem) : RS := match n with
  | none => h σ μ
  | some i => if σ.length ≤ i then .no else match h (σ.set i (some (.exn x.c x.vs))) μ with
    | .ok (.next σ) μ => .ok (.next (σ.set i none)) μ
    | .ok (.brk σ) μ => .ok (.brk (σ.set i none)) μ
    | .ok (.cnt σ) μ => .ok (.cnt (σ.set i none)) μ
    | .ok (.ret v) μ => .ok (.ret v) μ
    | _ => .no
def RS.calm : RS → RS
  | .exc _ _ _ => .no
  | r => r
/-- an exception of the class c, made of the values -/
def mkX (P : Prog) (c : Nat) (xs : List MV) : Option MX := match P.clss[c]? with
  | some C => (match C.fields, xs with
    | [], [.str _] => some ⟨c, []⟩
    | [_], [v] => some ⟨c, [v]⟩
    | _, _ => none)
  | none => none
mutual
def evS (T : Tab) : S → Env → Mem → RS
  | .asg t e, σ, μ => (evE T e σ μ).stm σ fun v μ => (R.calm (asgT T t v σ μ)).stm σ fun σ μ => .ok (.next σ) μ
  | .setf f e, σ, μ => (evE T e σ μ).stm σ fun v μ => (match (σ[0]? : Option (Option MV)) with
    | some (some (MV.obj c vs)) => (match T.P.clss[c]? with
      | some C => if C.fields[vs.length]? = some f then .ok (.next (σ.set 0 (some (.obj c (vs ++ [v]))))) μ else .no
      | none => .no)
    | _ => .no)
  | .expr e, σ, μ => (evE T e σ μ).stm σ fun _ μ => .ok (.next σ) μ
  | .ite c a b, σ, μ => (evE T c σ μ).stm σ fun x μ => (truR x μ).stm σ fun k μ => if k then evB T a σ μ else evB T b σ μ
  | .while c b, σ, μ => whileL (fun σ μ => (evE T c σ μ).bind truR) (evB T b) T.n σ μ
  | .for t it b, σ, μ => (evE T it σ μ).stm σ fun J μ => (itM μ J).stm σ fun J μ => forL J (bindT t) (evB T b) T.n 0 σ μ
  | .ret e, σ, μ => (evE T e σ μ).stm σ fun v μ => .ok (.ret v) μ
  | .retN, _, μ => .ok (.ret .non) μ
  | .raise c as, σ, μ => (evEs T as σ μ).stm σ fun xs μ => (match mkX T.P c xs with
    | some x => .exc x σ μ
    | none => .no)
  | .brk, σ, μ => .ok (.brk σ) μ
  | .cnt, σ, μ => .ok (.cnt σ) μ
  | .pass, σ, μ => .ok (.next σ) μ
  | .try1 b c n h, σ, μ => (match evB T b σ μ with
    | .exc x σ μ => (match isX T.P x c with
      | some true => (suite n (evB T h) x σ μ).calm
      | some false => .exc x σ μ
      | none => .no)
    | r => r)
  | .try2 b c n h c' n' h', σ, μ => (match evB T b σ μ with
    | .exc x σ μ => (match isX T.P x c with
      | some true => (suite n (evB T h) x σ μ).calm
      | some false => (match isX T.P x c' with
        | some true => (suite n' (evB T h') x σ μ).calm
        | some false => .exc x σ μ
        | none => .no)
      | none => .no)
    | r => r)
def evB (T : Tab) : List S → Env → Mem → RS
  | [], σ, μ => .ok (.next σ) μ
  | s :: b, σ, μ => (evS T s σ μ).go fun σ μ => evB T b σ μ
end

/-! ### calls -/
def fullArgs (D : Def) (args : List MV) : List MV := args ++ D.dfl.drop (D.dfl.length - (D.np - args.length))
def slots (D : Def) (vs : List MV) : Env := vs.map some ++ List.replicate (D.ns - vs.length) none
def runD (T : Tab) (D : Def) (args : List MV) (μ : Mem) : R MV :=
  if (fullArgs D args).length = D.np then match evB T D.body (slots D (fullArgs D args)) μ with
    | .ok (.ret v) μ => .ok v μ
    | .ok (.next _) μ => .ok .non μ
    | .exc x _ μ => .exc x μ
    | _ => .no
  else .no
def runI (T : Tab) (c : Nat) (k : Nat) (D : Def) (args : List MV) (μ : Mem) : R MV :=
  if (fullArgs D (.obj c [] :: args)).length = D.np then match evB T D.body (slots D (fullArgs D (.obj c [] :: args))) μ with
    | .ok (.next σ) μ => (match (σ[0]? : Option (Option MV)) with
      | some (some (MV.obj c' vs)) => if c' = c ∧ vs.length = k then .ok (.obj c vs) μ else .no
      | _ => .no)
    | .exc x _ μ => .exc x μ
    | _ => .no
  else .no
/-- the calls, d deep, with n for the loops -/
def tabD (P : Prog) (n : Nat) : Nat → Tab
  | 0 => ⟨P, n, fun _ _ _ => .no, fun _ _ _ => .no⟩
  | d + 1 => ⟨P, n, fun f args μ => (match P.defs[f]? with
      | some D => runD (tabD P n d) D args μ
      | none => .no), fun c args μ => (match P.clss[c]? with
      | some C => (match C.init.bind fun i => P.defs[i]? with
        | some D => runI (tabD P n d) c C.fields.length D args μ
        | none => .no)
      | none => .no)⟩
end Mch

/-! ## How the machine's values stand in the abstract heap -/
namespace Mch
open PySem L2

structure Glob where
  K : PySem.W.Frag
  fA : Nat → Option Addr
  mA : Nat → Option Addr := fun _ => none
  cA : Nat → Option Addr
  P : Prog

mutual
def RV (g : Glob) (φ : List Addr) (G : Hp) : MV → V → Prop
  | .non, v => v = .non
  | .bl b, v => v = .bl b
  | .int i, v => v = .int i
  | .str s, v => v = .str s
  | .tup xs, v => ∃ a vs, v = .ref a ∧ SqT g.K G a vs ∧ RVs g φ G xs vs
  | .ref i, v => ∃ a, v = .ref a ∧ φ[i]? = some a
  | .obj c xs, v => ∃ a C dx fs Cl, v = .ref a ∧ g.cA c = some C ∧ G a = some (.ins C dx fs) ∧ g.P.clss[c]? = some Cl ∧ fs.map (·.1) = Cl.fields ∧ RVs g φ G xs (fs.map (·.2))
  | .fn f, v => ∃ a, v = .ref a ∧ g.fA f = some a
  | _, _ => False
def RVs (g : Glob) (φ : List Addr) (G : Hp) : List MV → List V → Prop
  | [], vs => vs = []
  | x :: xs, vs => ∃ v r, vs = v :: r ∧ RV g φ G x v ∧ RVs g φ G xs r
end

/-- what never changes -/
def Fix : HO → Prop
  | .tup _ => True
  | .ins _ _ _ => True
  | .frz _ _ => True
  | .xd _ => True
  | _ => False
def Sub (G H : Hp) : Prop := ∀ a o, G a = some o → H a = some o
structure Ext (ex : Option Addr) (φ : List Addr) (G H : Hp) (φ' : List Addr) (G' H' : Hp) : Prop where
  pre : φ <+: φ'
  keep : ∀ a o, G a = some o → Fix o → G' a = some o
  sub : Sub G' H'
  frame : ∀ a o, H a = some o → G a = none → G' a = none ∧ ∃ o', H' a = some o' ∧ (some a ≠ ex → o' = o)
section
variable {ex : Option Addr} {φ φ1 φ2 : List Addr} {G G1 G2 H H1 H2 : Hp} {g : Glob}
theorem Ext.refl (s : Sub G H) : Ext ex φ G H φ G H := ⟨List.prefix_refl _, fun _ _ h _ => h, s, fun _ o h n => ⟨n, o, h, fun _ => rfl⟩⟩
theorem Ext.trans (a : Ext ex φ G H φ1 G1 H1) (b : Ext ex φ1 G1 H1 φ2 G2 H2) : Ext ex φ G H φ2 G2 H2 where
  pre := a.pre.trans b.pre
  keep := fun c o h i => b.keep c o (a.keep c o h i) i
  sub := b.sub
  frame := fun c o h n => by
    obtain ⟨n1, o1, h1, e1⟩ := a.frame c o h n
    obtain ⟨n2, o2, h2, e2⟩ := b.frame c o1 h1 n1
    exact ⟨n2, o2, h2, fun ne => (e2 ne).trans (e1 ne)⟩
theorem Ext.weak (a : Ext none φ G H φ1 G1 H1) : Ext ex φ G H φ1 G1 H1 where
  pre := a.pre
  keep := a.keep
  sub := a.sub
  frame := fun c o h n => by
    obtain ⟨n1, o1, h1, e1⟩ := a.frame c o h n
    exact ⟨n1, o1, h1, fun _ => e1 (by simp)⟩
theorem Ext.same (a : Ext none φ G H φ1 G1 H1) {c : Addr} {o : HO} (h : H c = some o) (n : G c = none) : H1 c = some o ∧ G1 c = none := by
  obtain ⟨n1, o1, h1, e1⟩ := a.frame c o h n
  have e := e1 (by simp)
  subst e
  exact ⟨h1, n1⟩
theorem Sub.none (s : Sub G H) {a : Addr} (h : H a = none) : G a = none := by
  cases e : G a with
  | none => rfl
  | some o =>
    have := s a o e
    rw [h] at this
    cases this
theorem Sub.upd (s : Sub G H) (a : Addr) (o : HO) : Sub (upd G a o) (upd H a o) := fun b u e => by
  by_cases q : b = a
  · subst q
    rw [upd_same] at e ⊢
    exact e
  · rw [upd_ne q] at e ⊢
    exact s b u e
/-- a new object -/
theorem Ext.new (s : Sub G H) {p : Addr} {o : HO} (h : H p = Option.none) (x : List Addr) : Ext ex φ G H (φ ++ x) (upd G p o) (upd H p o) where
  pre := List.prefix_append _ _
  keep := fun a u e _ => by
    rw [upd_ne (ne_of_none e (s.none h))]
    exact e
  sub := s.upd p o
  frame := fun a u e n => by
    have ne : a ≠ p := ne_of_none e h
    rw [upd_ne ne, upd_ne ne]
    exact ⟨n, u, e, fun _ => rfl⟩
/-- an object that may change is changed -/
theorem Ext.set (s : Sub G H) {p : Addr} {o u : HO} (h : G p = some o) (hf : ¬ Fix o) : Ext ex φ G H φ (L2.upd G p u) (L2.upd H p u) where
  pre := List.prefix_refl _
  keep := fun a w e i => by
    have ne : a ≠ p := fun z => by
      subst z
      rw [h] at e
      cases e
      exact hf i
    rw [upd_ne ne]
    exact e
  sub := s.upd p u
  frame := fun a w e n => by
    have ne : a ≠ p := fun z => by
      subst z
      rw [h] at n
      cases n
    rw [upd_ne ne, upd_ne ne]
    exact ⟨n, w, e, fun _ => rfl⟩
/-! ### values stay -/
theorem pre_get {i : Nat} {a : Addr} (p : φ <+: φ1) (h : φ[i]? = some a) : φ1[i]? = some a := by
  obtain ⟨t, rfl⟩ := p
  rw [List.getElem?_append_left (List.getElem?_eq_some_iff.mp h).1]
  exact h
theorem sqT_keep {K : PySem.W.Frag} {a : Addr} {vs : List V} (k : ∀ a o, G a = some o → Fix o → G1 a = some o) (h : SqT K G a vs) : SqT K G1 a vs := by
  rcases h with (h | ⟨o, h⟩) | h
  · exact .inl (.inl (k a _ h trivial))
  · exact .inl (.inr ⟨o, k a _ h trivial⟩)
  · exact .inr h
mutual
theorem RV.mono (p : φ <+: φ1) (k : ∀ a o, G a = some o → Fix o → G1 a = some o) : ∀ (x : MV) (v : V), RV g φ G x v → RV g φ1 G1 x v
  | .non, v, h => by simpa only [RV] using h
  | .bl b, v, h => by simpa only [RV] using h
  | .int i, v, h => by simpa only [RV] using h
  | .str s, v, h => by simpa only [RV] using h
  | .tup xs, v, h => by
    simp only [RV] at h ⊢
    obtain ⟨a, vs, e, hq, r⟩ := h
    exact ⟨a, vs, e, sqT_keep k hq, RVs.mono p k xs vs r⟩
  | .ref i, v, h => by
    simp only [RV] at h ⊢
    obtain ⟨a, e, q⟩ := h
    exact ⟨a, e, pre_get p q⟩
  | .obj c xs, v, h => by
    simp only [RV] at h ⊢
    obtain ⟨a, C, dx, fs, Cl, e, hc, hg, hl, hn, r⟩ := h
    exact ⟨a, C, dx, fs, Cl, e, hc, k a _ hg trivial, hl, hn, RVs.mono p k xs _ r⟩
  | .fn f, v, h => by simpa only [RV] using h
  | .rng _ _ _, v, h => by simp only [RV] at h
  | .zp _ _, v, h => by simp only [RV] at h
  | .en _, v, h => by simp only [RV] at h
  | .exn _ _, v, h => by simp only [RV] at h
theorem RVs.mono (p : φ <+: φ1) (k : ∀ a o, G a = some o → Fix o → G1 a = some o) : ∀ (xs : List MV) (vs : List V), RVs g φ G xs vs → RVs g φ1 G1 xs vs
  | [], vs, h => by simpa only [RVs] using h
  | x :: xs, vs, h => by
    simp only [RVs] at h ⊢
    obtain ⟨v, r, e, h1, h2⟩ := h
    exact ⟨v, r, e, RV.mono p k x v h1, RVs.mono p k xs r h2⟩
end
theorem RV.ext {x : MV} {v : V} (h : RV g φ G x v) (e : Ext ex φ G H φ1 G1 H1) : RV g φ1 G1 x v := RV.mono e.pre e.keep x v h
theorem RVs.ext {x : List MV} {v : List V} (h : RVs g φ G x v) (e : Ext ex φ G H φ1 G1 H1) : RVs g φ1 G1 x v := RVs.mono e.pre e.keep x v h
/-! ### rows of values -/
theorem rvs_nil : RVs g φ G [] [] := by simp only [RVs]
theorem rvs_cons {x : MV} {xs : List MV} {v : V} {vs : List V} (h : RV g φ G x v) (r : RVs g φ G xs vs) : RVs g φ G (x :: xs) (v :: vs) := by
  simp only [RVs]
  exact ⟨v, vs, rfl, h, r⟩
theorem rvs_iff : ∀ {xs : List MV} {vs : List V}, RVs g φ G xs vs ↔ xs.length = vs.length ∧ ∀ (i : Nat) x v, xs[i]? = some x → vs[i]? = some v → RV g φ G x v
  | [], vs => by
    simp only [RVs]
    constructor
    · rintro rfl
      exact ⟨rfl, fun i x v h => by simp at h⟩
    · rintro ⟨h, _⟩
      cases vs with
      | nil => rfl
      | cons _ _ => simp at h
  | x :: xs, vs => by
    simp only [RVs]
    constructor
    · rintro ⟨v, r, rfl, h1, h2⟩
      obtain ⟨l, f⟩ := rvs_iff.mp h2
      refine ⟨by simp [l], fun i y w e1 e2 => ?_⟩
      cases i with
      | zero =>
        simp at e1 e2
        subst e1 e2
        exact h1
      | succ i => exact f i y w (by simpa using e1) (by simpa using e2)
    · rintro ⟨l, f⟩
      cases vs with
      | nil => simp at l
      | cons v r => exact ⟨v, r, rfl, f 0 x v rfl rfl, rvs_iff.mpr ⟨by simpa using l, fun i y w e1 e2 => f (i + 1) y w (by simpa using e1) (by simpa using e2)⟩⟩
theorem RVs.len {xs : List MV} {vs : List V} (h : RVs g φ G xs vs) : xs.length = vs.length := (rvs_iff.mp h).1
theorem RVs.get {xs : List MV} {vs : List V} (h : RVs g φ G xs vs) {i : Nat} {x : MV} (e : xs[i]? = some x) : ∃ v, vs[i]? = some v ∧ RV g φ G x v := by
  obtain ⟨l, f⟩ := rvs_iff.mp h
  have hi := (List.getElem?_eq_some_iff.mp e).1
  have hv : vs[i]? = some (vs[i]'(by omega)) := List.getElem?_eq_getElem _
  exact ⟨_, hv, f i x _ e hv⟩
theorem RVs.none {xs : List MV} {vs : List V} (h : RVs g φ G xs vs) {i : Nat} (e : xs[i]? = Option.none) : vs.length ≤ i := by
  have := h.len
  have := List.getElem?_eq_none_iff.mp e
  omega
theorem RVs.back {xs : List MV} {vs : List V} (h : RVs g φ G xs vs) {i : Nat} {v : V} (e : vs[i]? = some v) : ∃ x, xs[i]? = some x ∧ RV g φ G x v := by
  obtain ⟨l, f⟩ := rvs_iff.mp h
  have hi := (List.getElem?_eq_some_iff.mp e).1
  have hx : xs[i]? = some (xs[i]'(by omega)) := List.getElem?_eq_getElem _
  exact ⟨_, hx, f i _ v hx e⟩
theorem RVs.append : ∀ {xs ys : List MV} {vs ws : List V}, RVs g φ G xs vs → RVs g φ G ys ws → RVs g φ G (xs ++ ys) (vs ++ ws)
  | [], _, _, _, h, k => by
    simp only [RVs] at h
    subst h
    exact k
  | x :: xs, _, _, _, h, k => by
    simp only [RVs] at h
    obtain ⟨v, r, rfl, h1, h2⟩ := h
    exact rvs_cons h1 (RVs.append h2 k)
theorem RVs.take {xs : List MV} {vs : List V} (h : RVs g φ G xs vs) (n : Nat) : RVs g φ G (xs.take n) (vs.take n) := by
  obtain ⟨l, f⟩ := rvs_iff.mp h
  refine rvs_iff.mpr ⟨by simp [l], fun i x v e1 e2 => ?_⟩
  rw [List.getElem?_take] at e1 e2
  split at e1
  · rename_i hi
    rw [if_pos hi] at e2
    exact f i x v e1 e2
  · cases e1
theorem RVs.drop {xs : List MV} {vs : List V} (h : RVs g φ G xs vs) (n : Nat) : RVs g φ G (xs.drop n) (vs.drop n) := by
  obtain ⟨l, f⟩ := rvs_iff.mp h
  refine rvs_iff.mpr ⟨by simp [l], fun i x v e1 e2 => ?_⟩
  rw [List.getElem?_drop] at e1 e2
  exact f _ x v e1 e2
theorem RVs.set {xs : List MV} {vs : List V} (h : RVs g φ G xs vs) (n : Nat) {x : MV} {v : V} (r : RV g φ G x v) : RVs g φ G (xs.set n x) (vs.set n v) := by
  obtain ⟨l, f⟩ := rvs_iff.mp h
  refine rvs_iff.mpr ⟨by simp [l], fun i y w e1 e2 => ?_⟩
  rw [List.getElem?_set] at e1 e2
  split at e1
  · rename_i q
    rw [if_pos q] at e2
    split at e1
    · rename_i q1
      rw [if_pos (by omega)] at e2
      cases e1
      cases e2
      exact r
    · cases e1
  · rename_i q
    rw [if_neg q] at e2
    exact f i y w e1 e2
theorem RVs.one {x : MV} {vs : List V} (h : RVs g φ G [x] vs) : ∃ v, vs = [v] ∧ RV g φ G x v := by
  simp only [RVs] at h
  obtain ⟨v, r, rfl, h1, rfl⟩ := h
  exact ⟨v, rfl, h1⟩
theorem RVs.two {x y : MV} {vs : List V} (h : RVs g φ G [x, y] vs) : ∃ v w, vs = [v, w] ∧ RV g φ G x v ∧ RV g φ G y w := by
  simp only [RVs] at h
  obtain ⟨v, r, rfl, h1, w, r, rfl, h2, rfl⟩ := h
  exact ⟨v, w, rfl, h1, h2⟩
/-! ### the memory -/
/-- a list that nobody changes -/
def SqF (K : PySem.W.Frag) (G : Hp) (a : Addr) (vs : List V) : Prop := (∃ o, G a = some (.frz o (.lst vs))) ∨ ∀ G1 : Hp, SqL K G1 a vs
theorem SqF.sq {K : PySem.W.Frag} {G : Hp} {a : Addr} {vs : List V} (h : SqF K G a vs) : SqL K G a vs := by
  rcases h with ⟨o, h⟩ | h
  · exact .inl (.inr ⟨o, h⟩)
  · exact h G
theorem SqF.keep {K : PySem.W.Frag} {G G1 : Hp} {a : Addr} {vs : List V} (k : ∀ a o, G a = some o → Fix o → G1 a = some o) (h : SqF K G a vs) : SqF K G1 a vs := by
  rcases h with ⟨o, h⟩ | h
  · exact .inl ⟨o, k a _ h trivial⟩
  · exact .inr h
/-- what may be written -/
def Cell.mut : Cell → Bool
  | .frz _ => false
  | _ => true
def CellR (g : Glob) (φ : List Addr) (G : Hp) (a : Addr) : Cell → Prop
  | .lst xs => ∃ vs, G a = some (.lst vs) ∧ RVs g φ G xs vs
  | .frz xs => ∃ vs, SqF g.K G a vs ∧ RVs g φ G xs vs
  | .dct _ => False
structure Rel (g : Glob) (φ : List Addr) (G : Hp) (μ : Mem) : Prop where
  len : φ.length = μ.length
  inj : ∀ (i j : Nat) a c d, φ[i]? = some a → φ[j]? = some a → μ[i]? = some c → μ[j]? = some d → c.mut = true → d.mut = true → i = j
  cell : ∀ (i : Nat) a c, φ[i]? = some a → μ[i]? = some c → CellR g φ G a c
theorem Rel.lstAt {μ : Mem} (r : Rel g φ G μ) {i : Nat} {xs : List MV} {a : Addr} (h : lstAt μ i = some xs) (e : φ[i]? = some a) : ∃ vs, SqL g.K G a vs ∧ RVs g φ G xs vs := by
  unfold Mch.lstAt at h
  split at h
  · rename_i ys q
    cases h
    obtain ⟨vs, h1, h2⟩ := r.cell i a _ e q
    exact ⟨vs, .inl (.inl h1), h2⟩
  · rename_i ys q
    cases h
    obtain ⟨vs, h1, h2⟩ := r.cell i a _ e q
    exact ⟨vs, h1.sq, h2⟩
  · cases h
theorem Rel.ref {μ : Mem} (r : Rel g φ G μ) {i : Nat} {xs : List MV} {v : V} (h : Mch.lstAt μ i = some xs) (e : RV g φ G (.ref i) v) : ∃ a vs, v = .ref a ∧ φ[i]? = some a ∧ SqL g.K G a vs ∧ RVs g φ G xs vs := by
  simp only [RV] at e
  obtain ⟨a, rfl, q⟩ := e
  obtain ⟨vs, h1, h2⟩ := r.lstAt h q
  exact ⟨a, vs, rfl, q, h1, h2⟩
theorem CellR.keep {a : Addr} {c : Cell} (p : φ <+: φ1) (k : ∀ a o, G a = some o → Fix o → G1 a = some o) (kl : ∀ vs, G a = some (.lst vs) → G1 a = some (.lst vs)) (h : CellR g φ G a c) : CellR g φ1 G1 a c := by
  cases c with
  | lst xs =>
    obtain ⟨vs, h1, h2⟩ := h
    exact ⟨vs, kl _ h1, RVs.mono p k xs vs h2⟩
  | frz xs =>
    obtain ⟨vs, h1, h2⟩ := h
    exact ⟨vs, h1.keep k, RVs.mono p k xs vs h2⟩
  | dct kvs => exact h
/-- the heap grows -/
theorem Rel.grow {μ : Mem} (r : Rel g φ G μ) (k : Sub G G1) : Rel g φ G1 μ :=
  ⟨r.len, r.inj, fun i a c e1 e2 => (r.cell i a c e1 e2).keep (List.prefix_refl _) (fun b o h _ => k b o h) fun vs h => k a _ h⟩
theorem sub_new {p : Addr} {o : HO} (h : G p = none) : Sub G (L2.upd G p o) := fun b u e => by
  rw [upd_ne (ne_of_none e h)]
  exact e
theorem Rel.alive {μ : Mem} (r : Rel g φ G μ) {i : Nat} {a : Addr} (e : φ[i]? = some a) : ∃ c, μ[i]? = some c ∧ CellR g φ G a c := by
  have hi := (List.getElem?_eq_some_iff.mp e).1
  have hv : μ[i]? = some (μ[i]'(by rw [← r.len]; exact hi)) := List.getElem?_eq_getElem _
  exact ⟨_, hv, r.cell i a _ e hv⟩
/-- what may be written is tracked -/
theorem Rel.there {μ : Mem} (r : Rel g φ G μ) {i : Nat} {a : Addr} {c : Cell} (e : φ[i]? = some a) (h : μ[i]? = some c) (m : c.mut = true) : ∃ o, G a = some o ∧ ¬ Fix o := by
  have q := r.cell i a c e h
  cases c with
  | lst xs =>
    obtain ⟨vs, h1, _⟩ := q
    exact ⟨_, h1, fun z => z⟩
  | frz xs => cases m
  | dct kvs => exact q.elim
theorem get_app {α : Type} {l : List α} {x y : α} {i : Nat} (h : (l ++ [x])[i]? = some y) : l[i]? = some y ∨ (i = l.length ∧ y = x) := by
  by_cases hi : i < l.length
  · rw [List.getElem?_append_left hi] at h
    exact .inl h
  · rw [List.getElem?_append_right (by omega)] at h
    obtain ⟨e0, rfl⟩ := List.getElem?_eq_some_iff.mp h
    have e00 : i - l.length = 0 := by simp at e0; omega
    exact .inr ⟨by omega, by simp only [e00, List.getElem_cons_zero]⟩
/-- a new list -/
theorem Rel.newL {μ : Mem} (r : Rel g φ G μ) {p : Addr} (h : G p = none) {xs : List MV} {vs : List V} (rv : RVs g φ G xs vs) : Rel g (φ ++ [p]) (L2.upd G p (.lst vs)) (μ ++ [.lst xs]) := by
  have pre : φ <+: φ ++ [p] := List.prefix_append _ _
  have k : ∀ a o, G a = some o → Fix o → L2.upd G p (.lst vs) a = some o := fun a o e _ => sub_new h a o e
  have old : ∀ {i : Nat} {a : Addr} {c : Cell}, (φ ++ [p])[i]? = some a → (μ ++ [Cell.lst xs])[i]? = some c → (φ[i]? = some a ∧ μ[i]? = some c) ∨ (i = φ.length ∧ a = p ∧ c = Cell.lst xs) := fun {i a c} e1 e2 => by
    rcases get_app e1 with e1 | ⟨q1, rfl⟩
    · rcases get_app e2 with e2 | ⟨q2, rfl⟩
      · exact .inl ⟨e1, e2⟩
      · have := (List.getElem?_eq_some_iff.mp e1).1
        have := r.len
        omega
    · rcases get_app e2 with e2 | ⟨q2, rfl⟩
      · have := (List.getElem?_eq_some_iff.mp e2).1
        have := r.len
        omega
      · exact .inr ⟨q1, rfl, rfl⟩
  refine ⟨by simp [r.len], fun i j a c d e1 e2 e3 e4 m1 m2 => ?_, fun i a c e1 e2 => ?_⟩
  · rcases old e1 e3 with ⟨p1, p2⟩ | ⟨p1, p2, p3⟩ <;> rcases old e2 e4 with ⟨q1, q2⟩ | ⟨q1, q2, q3⟩
    · exact r.inj i j a c d p1 q1 p2 q2 m1 m2
    · obtain ⟨o, ho, _⟩ := r.there p1 p2 m1
      rw [q2, h] at ho
      cases ho
    · obtain ⟨o, ho, _⟩ := r.there q1 q2 m2
      rw [p2, h] at ho
      cases ho
    · omega
  · rcases old e1 e2 with ⟨p1, p2⟩ | ⟨p1, p2, p3⟩
    · exact (r.cell i a c p1 p2).keep pre k fun ws e => sub_new h a _ e
    · rw [p2, p3]
      exact ⟨vs, upd_same, RVs.mono pre k xs vs rv⟩
theorem get_set {α : Type} {l : List α} {x y : α} {i j : Nat} (h : (l.set i x)[j]? = some y) : (j = i ∧ y = x ∧ i < l.length) ∨ (j ≠ i ∧ l[j]? = some y) := by
  rw [List.getElem?_set] at h
  split at h
  · rename_i q
    split at h
    · cases h
      exact .inl ⟨q.symm, rfl, by assumption⟩
    · cases h
  · rename_i q
    exact .inr ⟨fun z => q z.symm, h⟩
/-- a list is written anew -/
theorem Rel.setL {μ : Mem} (r : Rel g φ G μ) {i : Nat} {p : Addr} (e : φ[i]? = some p) {ys : List MV} (hm : μ[i]? = some (.lst ys)) {xs : List MV} {vs : List V} (rv : RVs g φ G xs vs) : Rel g φ (L2.upd G p (.lst vs)) (μ.set i (.lst xs)) := by
  obtain ⟨us, h, _⟩ := r.cell i p _ e hm
  have k : ∀ a o, G a = some o → Fix o → L2.upd G p (.lst vs) a = some o := fun a o q hf => by
    rw [upd_ne (fun z => by
      subst z
      rw [h] at q
      cases q
      exact hf)]
    exact q
  have back : ∀ {j : Nat} {c : Cell}, (μ.set i (.lst xs))[j]? = some c → ∃ c', μ[j]? = some c' ∧ c'.mut = c.mut := fun {j c} q => by
    rcases get_set q with ⟨rfl, rfl, _⟩ | ⟨_, q⟩
    · exact ⟨_, hm, rfl⟩
    · exact ⟨_, q, rfl⟩
  refine ⟨by simp [r.len], fun j l a c d e1 e2 e3 e4 m1 m2 => ?_, fun j a c e1 e2 => ?_⟩
  · obtain ⟨c', e3, n1⟩ := back e3
    obtain ⟨d', e4, n2⟩ := back e4
    exact r.inj j l a c' d' e1 e2 e3 e4 (n1.trans m1) (n2.trans m2)
  · rcases get_set e2 with ⟨rfl, rfl, _⟩ | ⟨ne, q⟩
    · rw [e] at e1
      cases e1
      exact ⟨vs, upd_same, RVs.mono (List.prefix_refl _) k xs vs rv⟩
    · cases c with
      | lst zs =>
        have na : a ≠ p := fun z => by
          subst z
          exact ne (r.inj j i a _ _ e1 e q hm rfl rfl)
        exact (r.cell j a _ e1 q).keep (List.prefix_refl _) k fun ws w => by
          rw [upd_ne na]
          exact w
      | frz zs =>
        obtain ⟨ws, w1, w2⟩ := r.cell j a _ e1 q
        exact ⟨ws, w1.keep k, RVs.mono (List.prefix_refl _) k zs ws w2⟩
      | dct kvs => exact (r.cell j a _ e1 q).elim
end

/-! ### the judgement: what a run's end gives -/
/-- an exception in the air: its class, its own dict -/
def RX (g : Glob) (φ : List Addr) (G H : Hp) (x : MX) (cls : Value) (dd : Option Addr) : Prop :=
  ∃ C Cl, g.cA x.c = some C ∧ g.P.clss[x.c]? = some Cl ∧ cls = .ref C ∧ ((x.vs = [] ∧ Cl.fields = [] ∧ dd = none) ∨ ∃ d fs, dd = some d ∧ H d = some (.xd fs) ∧ G d = none ∧ fs.map (·.1) = Cl.fields ∧ RVs g φ G x.vs (fs.map (·.2)))
abbrev KM (α : Type) := α → Mem → List Addr → Hp → Hp → Prop
def Good (g : Glob) (W : WX) (σ : L2.St) (φ : List Addr) (G H : Hp) {α : Type} (r : R α) (k : KM α) : Prop := match r with
  | .ok a μ => ∀ φ1 G1 H1, Ext none φ G H φ1 G1 H1 → Rel g φ1 G1 μ → k a μ φ1 G1 H1
  | .exc x μ => ∀ φ1 G1 H1, Ext none φ G H φ1 G1 H1 → Rel g φ1 G1 μ → ∀ cls dd, RX g φ1 G1 H1 x cls dd → W cls dd σ H1
  | .no => False
section
variable {g : Glob} {W : WX} {σ : L2.St} {φ φ1 : List Addr} {G G1 H H1 : Hp} {α β : Type} {r : R α} {k k' : KM α}
theorem Good.ext (h : Good g W σ φ G H r k) (e : Ext none φ G H φ1 G1 H1) : Good g W σ φ1 G1 H1 r k := by
  cases r with
  | ok a μ => exact fun φ2 G2 H2 e2 r2 => h φ2 G2 H2 (e.trans e2) r2
  | exc x μ => exact fun φ2 G2 H2 e2 r2 => h φ2 G2 H2 (e.trans e2) r2
  | no => exact h
theorem Good.imp (h : Good g W σ φ G H r k) (f : ∀ a μ φ1 G1 H1, Ext none φ G H φ1 G1 H1 → Rel g φ1 G1 μ → k a μ φ1 G1 H1 → k' a μ φ1 G1 H1) : Good g W σ φ G H r k' := by
  cases r with
  | ok a μ => exact fun φ2 G2 H2 e2 r2 => f _ _ _ _ _ e2 r2 (h φ2 G2 H2 e2 r2)
  | exc x μ => exact h
  | no => exact h
theorem Good.imp2 (h : Good g W σ φ G H r k) (f : ∀ a μ φ1 G1 H1, r = .ok a μ → Ext none φ G H φ1 G1 H1 → Rel g φ1 G1 μ → k a μ φ1 G1 H1 → k' a μ φ1 G1 H1) : Good g W σ φ G H r k' := by
  cases r with
  | ok a μ => exact fun φ2 G2 H2 e2 r2 => f _ _ _ _ _ rfl e2 r2 (h φ2 G2 H2 e2 r2)
  | exc x μ => exact h
  | no => exact h
theorem Good.bind {k : KM β} {f : α → Mem → R β} (h : Good g W σ φ G H (r.bind f) k) : Good g W σ φ G H r fun a μ φ1 G1 H1 => Good g W σ φ1 G1 H1 (f a μ) k := by
  cases r with
  | ok a μ => exact fun φ1 G1 H1 e _ => Good.ext (r := f a μ) h e
  | exc x μ => exact h
  | no => exact h
theorem Good.opt {o : Option α} {μ : Mem} (h : Good g W σ φ G H (R.opt o μ) k) (s : Sub G H) (r : Rel g φ G μ) : ∃ a, o = some a ∧ k a μ φ G H := by
  cases o with
  | none => exact h.elim
  | some a => exact ⟨a, rfl, h φ G H (Ext.refl s) r⟩
theorem Good.here {a : α} {μ : Mem} (h : Good g W σ φ G H (.ok a μ) k) (s : Sub G H) (r : Rel g φ G μ) : k a μ φ G H := h φ G H (Ext.refl s) r
end
/-- where one stands: in a def | in an __init__ that fills the instance at x | in a block of such | in an except suite: the slot i holds the exception at a -/
inductive Md where
  | no | ini (x : Addr) | hid0 | exc (i : Nat) (a : Addr) (cls : Value) (dd : Option Addr)
def Md.ex : Md → Nat → Bool
  | .no, _ => false
  | .ini _, i => i == 0
  | .hid0, i => i == 0
  | .exc j _ _ _, i => i == j
def Md.adr : Md → Option Addr
  | .ini x => some x
  | _ => none
/-- within a comprehension -/
def Md.blk : Md → Md
  | .ini _ => .hid0
  | .exc _ _ _ _ => .no
  | m => m
/-- the names' values -/
def REnv (g : Glob) (φ : List Addr) (G : Hp) (md : Md) (σm : Env) (σ : L2.St) : Prop := σm.length = σ.length ∧ ∀ (i : Nat) v, σm[i]? = some (some v) → md.ex i = false → ∃ w, σ[i]? = some (some w) ∧ RV g φ G v w
/-- what stands beside: the instance that is filled; the exception that is handled -/
def SelfI (g : Glob) (φ : List Addr) (G H : Hp) (md : Md) (σm : Env) (σ : L2.St) : Prop := match md with
  | .ini x => ∃ C dx fs c vs Cl, σ[0]? = some (some (.ref x)) ∧ H x = some (.ins C dx fs) ∧ G x = none ∧ σm[0]? = some (some (.obj c vs)) ∧
      g.cA c = some C ∧ g.P.clss[c]? = some Cl ∧ fs.map (·.1) = Cl.fields.take vs.length ∧ RVs g φ G vs (fs.map (·.2))
  | .exc i a cls dd => ∃ c vs, σ[i]? = some (some (.ref a)) ∧ σm[i]? = some (some (.exn c vs)) ∧ RX g φ G H ⟨c, vs⟩ cls dd
  | _ => True
structure RSt (g : Glob) (φ : List Addr) (G H : Hp) (md : Md) (σm : Env) (σ : L2.St) : Prop where
  env : REnv g φ G md σm σ
  self : SelfI g φ G H md σm σ
theorem REnv.ext {g : Glob} {ex : Option Addr} {φ φ1 : List Addr} {G G1 H H1 : Hp} {md : Md} {σm : Env} {σ : L2.St} (h : REnv g φ G md σm σ) (e : Ext ex φ G H φ1 G1 H1) : REnv g φ1 G1 md σm σ :=
  ⟨h.1, fun i v e1 e2 => let ⟨w, q, r⟩ := h.2 i v e1 e2; ⟨w, q, r.ext e⟩⟩
theorem REnv.set {g : Glob} {φ : List Addr} {G : Hp} {md : Md} {σm : Env} {σ : L2.St} (h : REnv g φ G md σm σ) {i : Nat} {v : MV} {w : V} (r : RV g φ G v w) : REnv g φ G md (σm.set i (some v)) (σ.set i (some w)) := by
  refine ⟨by simp [h.1], fun j u e1 e2 => ?_⟩
  rw [List.getElem?_set] at e1 ⊢
  split at e1
  · rename_i q
    rw [if_pos q]
    split at e1
    · cases e1
      exact ⟨w, by rw [if_pos (by rw [← h.1]; assumption)], r⟩
    · cases e1
  · rename_i q
    rw [if_neg q]
    exact h.2 j u e1 e2
/-- behind an expression -/
theorem RSt.ext {g : Glob} {φ φ1 : List Addr} {G G1 H H1 : Hp} {md : Md} {σm : Env} {σ : L2.St} (h : RSt g φ G H md σm σ) (e : Ext none φ G H φ1 G1 H1) : RSt g φ1 G1 H1 md σm σ := by
  refine ⟨h.env.ext e, ?_⟩
  have hs := h.self
  cases md with
  | no => trivial
  | hid0 => trivial
  | ini x =>
    obtain ⟨C, dx, fs, c, vs, Cl, h1, h3, h4, h5, h6, h7, h8, h9⟩ := hs
    obtain ⟨q1, q2⟩ := e.same h3 h4
    exact ⟨C, dx, fs, c, vs, Cl, h1, q1, q2, h5, h6, h7, h8, h9.ext e⟩
  | exc i a cls dd =>
    obtain ⟨c, vs, h1, h2, C, Cl, h3, h4, h5, h6⟩ := hs
    refine ⟨c, vs, h1, h2, C, Cl, h3, h4, h5, ?_⟩
    rcases h6 with h6 | ⟨d, fs, h7, h8, h9, h10, h11⟩
    · exact .inl h6
    · obtain ⟨q1, q2⟩ := e.same h8 h9
      exact .inr ⟨d, fs, h7, q1, q2, h10, h11.ext e⟩
theorem Md.blk_ex {md : Md} {i : Nat} (h : md.blk.ex i = false) (hb : ∀ j a c d, md ≠ .exc j a c d) : md.ex i = false := by
  cases md with
  | exc j a c d => exact absurd rfl (hb j a c d)
  | _ => exact h
theorem REnv.blk {g : Glob} {φ : List Addr} {G : Hp} {md : Md} {σm : Env} {σ : L2.St} (h : REnv g φ G md σm σ) (hb : ∀ j a c d, md ≠ .exc j a c d) : REnv g φ G md.blk σm σ :=
  ⟨h.1, fun i v e1 e2 => h.2 i v e1 (Md.blk_ex e2 hb)⟩
/-- a block's names alone -/
theorem RSt.of {g : Glob} {φ : List Addr} {G H : Hp} {md : Md} {σm : Env} {σ : L2.St} (h : REnv g φ G md.blk σm σ) : RSt g φ G H md.blk σm σ :=
  ⟨h, by cases md <;> trivial⟩
theorem RSt.blk {g : Glob} {φ : List Addr} {G H : Hp} {md : Md} {σm : Env} {σ : L2.St} (h : REnv g φ G md σm σ) (hb : ∀ j a c d, md ≠ .exc j a c d) : RSt g φ G H md.blk σm σ :=
  ⟨⟨h.1, fun i v e1 e2 => h.2 i v e1 (Md.blk_ex e2 hb)⟩, by cases md with
    | exc j a c d => exact absurd rfl (hb j a c d)
    | _ => trivial⟩
theorem RSt.set {g : Glob} {φ : List Addr} {G H : Hp} {md : Md} {σm : Env} {σ : L2.St} (h : RSt g φ G H md σm σ) {i : Nat} {v : MV} {w : V} (r : RV g φ G v w) (hi : md.ex i = false) : RSt g φ G H md (σm.set i (some v)) (σ.set i (some w)) := by
  refine ⟨h.env.set r, ?_⟩
  have hs := h.self
  cases md with
  | no => trivial
  | hid0 => trivial
  | ini x =>
    have ne : i ≠ 0 := by simpa [Md.ex] using hi
    obtain ⟨C, dx, fs, c, vs, Cl, h1, h3, h4, h5, h6⟩ := hs
    exact ⟨C, dx, fs, c, vs, Cl, by rw [List.getElem?_set_ne ne]; exact h1, h3, h4, by rw [List.getElem?_set_ne ne]; exact h5, h6⟩
  | exc j a cls dd =>
    have ne : i ≠ j := by simpa [Md.ex] using hi
    obtain ⟨c, vs, h1, h2, h3⟩ := hs
    exact ⟨c, vs, by rw [List.getElem?_set_ne ne]; exact h1, by rw [List.getElem?_set_ne ne]; exact h2, h3⟩
abbrev kE (g : Glob) (Q : VK) : KM MV := fun v _ φ1 G1 H1 => ∀ w, RV g φ1 G1 v w → Q w H1
abbrev kEs (g : Glob) (Q : List V → Hp → Prop) : KM (List MV) := fun v _ φ1 G1 H1 => ∀ w, RVs g φ1 G1 v w → Q w H1
/-- the reading of an expression -/
def tE (g : Glob) (T : Tab) (W : WX) (md : Md) (e : E) : TE := fun σ H Q => ∃ φ G μ σm, Sub G H ∧ Rel g φ G μ ∧ RSt g φ G H md σm σ ∧ Good g W σ φ G H (evE T e σm μ) (kE g Q)
def tEs (g : Glob) (T : Tab) (W : WX) (md : Md) (es : List E) : TA := fun σ H Q => ∃ φ G μ σm, Sub G H ∧ Rel g φ G μ ∧ RSt g φ G H md σm σ ∧ Good g W σ φ G H (evEs T es σm μ) (kEs g Q)
def tT (g : Glob) (T : Tab) (W : WX) (md : Md) (e : E) : TT := fun σ H Q => ∃ φ G μ σm, Sub G H ∧ Rel g φ G μ ∧ RSt g φ G H md σm σ ∧ Good g W σ φ G H ((evE T e σm μ).bind truR) fun b _ _ _ H1 => Q b H1
end Mch

/-! ## Each operation of the machine is one of the model's -/
namespace Mch
open PySem PySem.Spec PyProof.Rows L2
section
variable {K : PySem.W.Frag} {G H : Hp} {a : Addr} {vs : List V}
theorem rd_sub {u : HO} (s : Sub G H) (h : Rd G a u) : Rd H a u := by
  rcases h with h | ⟨o, h⟩
  · exact .inl (s a _ h)
  · exact .inr ⟨o, s a _ h⟩
theorem sqT_sub (s : Sub G H) (h : SqT K G a vs) : SqT K H a vs := by
  rcases h with h | h
  · exact .inl (rd_sub s h)
  · exact .inr h
theorem sqL_sub (s : Sub G H) (h : SqL K G a vs) : SqL K H a vs := by
  rcases h with h | h
  · exact .inl (rd_sub s h)
  · exact .inr h
end
section
variable {g : Glob} {φ : List Addr} {G H : Hp} {μ : Mem} {x y : MV} {v w : V}
theorem empty_eq {xs : List MV} {vs : List V} (h : RVs g φ G xs vs) : xs.isEmpty = vs.isEmpty := by
  have l := h.len
  cases xs <;> cases vs <;> simp at l ⊢
theorem rv_non {x : MV} (h : RV g φ G x .non) : x = .non := by
  cases x <;> first | rfl | (simp [RV] at h)
/-! ### truth -/
theorem tru_of {k : Bool} (h : truM μ x = some k) (rv : RV g φ G x v) (r : Rel g φ G μ) (s : Sub G H) : TruV g.K v H k := by
  cases x with
  | non => simp only [RV] at rv; subst rv; simp only [truM, Option.some.injEq] at h; exact h.symm
  | bl b => simp only [RV] at rv; subst rv; simp only [truM, Option.some.injEq] at h; exact h.symm
  | int i => simp only [RV] at rv; subst rv; simp only [truM, Option.some.injEq] at h; exact h.symm
  | str z =>
    simp only [RV] at rv
    subst rv
    simp only [truM] at h
    split at h
    · exact ⟨by assumption, (Option.some.inj h).symm⟩
    · cases h
  | tup xs =>
    simp only [RV] at rv
    obtain ⟨a, vs, rfl, hq, hr⟩ := rv
    simp only [truM, Option.some.injEq] at h
    exact .inr (.inl ⟨vs, sqT_sub s hq, by rw [← empty_eq hr]; exact h.symm⟩)
  | ref i =>
    simp only [truM] at h
    cases e : lstAt μ i with
    | none => rw [e] at h; cases h
    | some xs =>
      rw [e] at h
      simp only [Option.map_some, Option.some.injEq] at h
      obtain ⟨a, vs, rfl, _, hq, hr⟩ := r.ref e rv
      exact .inl ⟨vs, sqL_sub s hq, by rw [← empty_eq hr]; exact h.symm⟩
  | obj _ _ => cases h
  | fn _ => cases h
  | rng _ _ _ => cases h
  | zp _ _ => cases h
  | en _ => cases h
  | exn _ _ => cases h
/-! ### data -/
theorem toDs_ok {f : MV → Option PyData} {P : V → PyData → Prop} {K : PySem.W.Frag} {n : Nat} (hf : ∀ x d v, f x = some d → RV g φ G x v → Dp K H v d ∧ d.canLay0 = true ∧ d.depth ≤ n) : ∀ (xs : List MV) (ds : List PyData) (vs : List V), toDs f xs = some ds → RVs g φ G xs vs → DpAll K H vs ds ∧ PyData.canLayAll0 ds = true ∧ PyData.depthAll ds ≤ n
  | [], ds, vs, h, r => by
    simp only [toDs, Option.some.injEq] at h
    simp only [RVs] at r
    subst h r
    exact ⟨.nil, rfl, Nat.zero_le _⟩
  | x :: xs, ds, vs, h, r => by
    simp only [RVs] at r
    obtain ⟨v, r1, rfl, hv, hr⟩ := r
    simp only [toDs] at h
    split at h
    · rename_i d ds' e1 e2
      cases h
      obtain ⟨a1, a2, a3⟩ := hf x d v e1 hv
      obtain ⟨b1, b2, b3⟩ := toDs_ok (P := P) hf xs ds' r1 e2 hr
      refine ⟨.cons a1 b1, ?_, ?_⟩
      · simp only [PyData.canLayAll0, a2, b2, Bool.and_self]
      · simp only [PyData.depthAll]
        exact Nat.max_le.mpr ⟨a3, b3⟩
    · cases h
theorem toD_ok (r : Rel g φ G μ) (s : Sub G H) : ∀ (n : Nat) (x : MV) (d : PyData) (v : V), toD μ n x = some d → RV g φ G x v → Dp g.K H v d ∧ d.canLay0 = true ∧ d.depth ≤ n
  | 0, _, _, _, h, _ => by simp only [toD] at h; cases h
  | n + 1, x, d, v, h, rv => by
    cases x with
    | non => simp only [toD, Option.some.injEq] at h; simp only [RV] at rv; subst h rv; exact ⟨.non, rfl, Nat.zero_le _⟩
    | bl b => simp only [toD, Option.some.injEq] at h; simp only [RV] at rv; subst h rv; exact ⟨.bl b, rfl, Nat.zero_le _⟩
    | int b => simp only [toD, Option.some.injEq] at h; simp only [RV] at rv; subst h rv; exact ⟨.int b, rfl, Nat.zero_le _⟩
    | str z =>
      simp only [toD] at h
      simp only [RV] at rv
      subst rv
      split at h
      · rename_i hz
        cases h
        exact ⟨.str z, by simp only [PyData.canLay0, hz], Nat.zero_le _⟩
      · cases h
    | tup xs =>
      simp only [toD] at h
      simp only [RV] at rv
      obtain ⟨a, vs, rfl, hq, hr⟩ := rv
      cases e : toDs (toD μ n) xs with
      | none => rw [e] at h; cases h
      | some ds =>
        rw [e] at h
        cases h
        obtain ⟨b1, b2, b3⟩ := toDs_ok (P := fun _ _ => True) (toD_ok r s n) xs ds vs e hr
        exact ⟨.tup (sqT_sub s hq) b1, by simpa only [PyData.canLay0] using b2, by simp only [PyData.depth]; omega⟩
    | ref i =>
      simp only [toD] at h
      cases e0 : lstAt μ i with
      | none => rw [e0] at h; cases h
      | some xs =>
        rw [e0] at h
        obtain ⟨a, vs, rfl, _, hq, hr⟩ := r.ref e0 rv
        cases e : toDs (toD μ n) xs with
        | none => simp only [e] at h; cases h
        | some ds =>
          simp only [e] at h
          cases h
          obtain ⟨b1, b2, b3⟩ := toDs_ok (P := fun _ _ => True) (toD_ok r s n) xs ds vs e hr
          exact ⟨.lst (sqL_sub s hq) b1, by simpa only [PyData.canLay0] using b2, by simp only [PyData.depth]; omega⟩
    | obj _ _ => simp only [toD] at h; cases h
    | fn _ => simp only [toD] at h; cases h
    | rng _ _ _ => simp only [toD] at h; cases h
    | zp _ _ => simp only [toD] at h; cases h
    | en _ => simp only [toD] at h; cases h
    | exn _ _ => simp only [toD] at h; cases h
theorem eqM_ok {k : Bool} (r : Rel g φ G μ) (s : Sub G H) (h : eqM μ x y = some k) (rx : RV g φ G x v) (ry : RV g φ G y w) :
    ∃ d e, Dp g.K H v d ∧ Dp g.K H w e ∧ SeqAt.shaped d = true ∧ SeqAt.shaped e = true ∧ k = PyData.eqv d e := by
  unfold eqM at h
  split at h
  · rename_i d e e1 e2
    obtain ⟨a1, a2, a3⟩ := toD_ok r s 40 x d v e1 rx
    obtain ⟨b1, b2, b3⟩ := toD_ok r s 40 y e w e2 ry
    refine ⟨d, e, a1, b1, ?_, ?_, (Option.some.inj h).symm⟩
    · exact Bool.and_eq_true_iff.mpr ⟨a2, decide_eq_true (by omega)⟩
    · exact Bool.and_eq_true_iff.mpr ⟨b2, decide_eq_true (by omega)⟩
  · cases h
/-! ### flat values -/
theorem flat_of (h : flatM x = true) (rx : RV g φ G x v) : flatV v = true := by
  cases x <;> simp only [flatM] at h <;> (try cases h) <;> simp only [RV] at rx <;> subst rx <;> rfl
theorem flats_of : ∀ {xs : List MV} {vs : List V}, xs.all flatM = true → RVs g φ G xs vs → vs.all flatV = true
  | [], vs, _, r => by simp only [RVs] at r; subst r; rfl
  | x :: xs, vs, h, r => by
    simp only [RVs] at r
    obtain ⟨v, r1, rfl, hv, hr⟩ := r
    rw [List.all_cons, Bool.and_eq_true] at h ⊢
    exact ⟨flat_of h.1 hv, flats_of h.2 hr⟩
theorem eqF_of (h : flatM x = true) (h' : flatM y = true) (rx : RV g φ G x v) (ry : RV g φ G y w) : eqF x y = eqV v w := by
  cases x <;> simp only [flatM] at h <;> (try cases h) <;> simp only [RV] at rx <;> subst rx <;>
    (cases y <;> simp only [flatM] at h' <;> (try cases h') <;> simp only [RV] at ry <;> subst ry <;> rfl)
theorem inF_of : ∀ {xs : List MV} {vs : List V}, flatM x = true → RV g φ G x v → xs.all flatM = true → RVs g φ G xs vs → (xs.any fun z => eqF z x) = inV v vs
  | [], vs, _, _, _, r => by simp only [RVs] at r; subst r; rfl
  | z :: xs, vs, h, rx, h', r => by
    simp only [RVs] at r
    obtain ⟨u, r1, rfl, hv, hr⟩ := r
    rw [List.all_cons, Bool.and_eq_true] at h'
    have ih := inF_of h rx h'.2 hr
    unfold inV at ih ⊢
    rw [List.any_cons, List.any_cons, ih, eqF_of h'.1 h hv rx]
theorem inM_ok {k : Bool} (r : Rel g φ G μ) (s : Sub G H) (h : inM μ x y = some k) (rx : RV g φ G x v) (ry : RV g φ G y w) :
    ∃ p vs, w = .ref p ∧ (SqL g.K H p vs ∨ SqT g.K H p vs) ∧ flatV v = true ∧ vs.all flatV = true ∧ k = inV v vs := by
  unfold inM at h
  split at h
  · rename_i xs e
    split at h
    · rename_i hf
      rw [Bool.and_eq_true] at hf
      cases h
      cases y with
      | tup ys =>
        simp only [Option.some.injEq] at e
        subst e
        simp only [RV] at ry
        obtain ⟨p, vs, rfl, hq, hr⟩ := ry
        exact ⟨p, vs, rfl, .inr (sqT_sub s hq), flat_of hf.1 rx, flats_of hf.2 hr, inF_of hf.1 rx hf.2 hr⟩
      | ref i =>
        obtain ⟨p, vs, rfl, _, hq, hr⟩ := r.ref e ry
        exact ⟨p, vs, rfl, .inl (sqL_sub s hq), flat_of hf.1 rx, flats_of hf.2 hr, inF_of hf.1 rx hf.2 hr⟩
      | _ => cases e
    · cases h
  · cases h
end
/-! ### the model's operations -/
section
variable {X : Cx} {pins : List (Addr × Obj)} {s : Shared} {σ : L2.St} {g : Glob} {φ : List Addr} {G H : Hp} {μ : Mem} {x y : MV} {v w : V} {a b : Value} {W : WX} {Q : VK}
theorem cmp_ok {op : CmpOp} {k : Bool} (hK : g.K = X.K) (hu : X.A.units + 64 < cLine) (I : Inv X pins σ H s) (r : Rel g φ G μ) (sb : Sub G H) (h : cmpM μ op x y = some k) (rx : RV g φ G x v) (ry : RV g φ G y w) (ra : RelV v a) (rb : RelV w b) (q : Q (.bl k) H) :
    wpAny (model X.prog X.w) X.A (compareOp op a b) (EP X pins σ Q) X.xe s := by
  have both : op = .Eq ∨ op = .NotEq ∨ op = .In ∨ op = .NotIn ∨ (op ≠ .Eq ∧ op ≠ .NotEq ∧ op ≠ .In ∧ op ≠ .NotIn) := by cases op <;> simp
  rcases both with rfl | rfl | rfl | rfl | ⟨n1, n2, n3, n4⟩
  · have h : eqM μ x y = some k := h
    obtain ⟨d, e, h1, h2, h3, h4, rfl⟩ := eqM_ok r sb h rx ry
    rw [hK] at h1 h2
    exact op_eqD hu pins s σ H v w a b Q I ra rb ⟨d, e, h1, h2, h3, h4, q⟩
  · have h : (eqM μ x y).map (!·) = some k := h
    cases e0 : eqM μ x y with
    | none => rw [e0] at h; cases h
    | some k' =>
      rw [e0] at h
      cases h
      obtain ⟨d, e, h1, h2, h3, h4, rfl⟩ := eqM_ok r sb e0 rx ry
      rw [hK] at h1 h2
      exact op_neD hu pins s σ H v w a b Q I ra rb ⟨d, e, h1, h2, h3, h4, q⟩
  · have h : inM μ x y = some k := h
    obtain ⟨p, vs, rfl, h1, h2, h3, rfl⟩ := inM_ok r sb h rx ry
    rw [hK] at h1
    exact op_in_seq pins s σ H v _ a b Q I ra rb ⟨p, vs, rfl, h1, h2, h3, q⟩
  · have h : (inM μ x y).map (!·) = some k := h
    cases e0 : inM μ x y with
    | none => rw [e0] at h; cases h
    | some k' =>
      rw [e0] at h
      cases h
      obtain ⟨p, vs, rfl, h1, h2, h3, rfl⟩ := inM_ok r sb e0 rx ry
      rw [hK] at h1
      exact op_notIn_seq pins s σ H v _ a b Q I ra rb ⟨p, vs, rfl, h1, h2, h3, q⟩
  · unfold cmpM at h
    split at h
    · exact absurd rfl n1
    · exact absurd rfl n2
    · simp only [RV] at rx ry
      subst rx ry
      cases h
      exact op_lt pins s σ H _ _ a b Q I ra rb ⟨_, _, rfl, rfl, q⟩
    · simp only [RV] at rx ry
      subst rx ry
      cases h
      exact op_le pins s σ H _ _ a b Q I ra rb ⟨_, _, rfl, rfl, q⟩
    · simp only [RV] at rx ry
      subst rx ry
      cases h
      exact op_gt pins s σ H _ _ a b Q I ra rb ⟨_, _, rfl, rfl, q⟩
    · simp only [RV] at rx ry
      subst rx ry
      cases h
      exact op_ge pins s σ H _ _ a b Q I ra rb ⟨_, _, rfl, rfl, q⟩
    · simp only [RV] at rx ry
      subst rx ry
      cases h
      exact op_le_str pins s σ H _ _ a b Q I ra rb ⟨_, _, rfl, rfl, q⟩
    · simp only [RV] at rx ry
      subst rx ry
      cases h
      exact op_lt_str pins s σ H _ _ a b Q I ra rb ⟨_, _, rfl, rfl, q⟩
    · simp only [RV] at rx ry
      subst rx ry
      cases h
      exact op_isN pins s σ H _ _ a b Q I ra rb ⟨rfl, q⟩
    · rename_i z hz
      simp only [RV] at ry
      subst ry
      cases h
      have hv : v ≠ .non := fun e => hz (rv_non (e ▸ rx))
      refine op_isN pins s σ H _ _ a b Q I ra rb ⟨rfl, ?_⟩
      rw [decide_eq_false hv]
      exact q
    · simp only [RV] at rx ry
      subst rx ry
      cases h
      exact op_notN pins s σ H _ _ a b Q I ra rb ⟨rfl, q⟩
    · rename_i z hz
      simp only [RV] at ry
      subst ry
      cases h
      have hv : v ≠ .non := fun e => hz (rv_non (e ▸ rx))
      refine op_notN pins s σ H _ _ a b Q I ra rb ⟨rfl, ?_⟩
      rw [decide_eq_false hv]
      exact q
    · exact absurd rfl n3
    · exact absurd rfl n4
    · cases h
/-- a new tuple -/
theorem newT_ok {xs : List MV} {vs : List V} (h : Good g W σ φ G H (newT xs μ) (kE g Q)) (r : Rel g φ G μ) (sb : Sub G H) (rv : RVs g φ G xs vs) : xs.length ≤ sizeLine ∧ ∀ p, H p = none → Q (.ref p) (upd H p (.tup vs)) := by
  unfold newT at h
  split at h
  · rename_i hz
    refine ⟨hz, fun p hp => ?_⟩
    have hG := sb.none hp
    have e : Ext none φ G H φ (upd G p (.tup vs)) (upd H p (.tup vs)) := by
      have := Ext.new (ex := none) (φ := φ) sb (o := .tup vs) hp []
      rwa [List.append_nil] at this
    refine h φ _ _ e (r.grow (sub_new hG)) _ ?_
    simp only [RV]
    exact ⟨p, vs, rfl, SqT.of upd_same, rv.ext e⟩
  · exact h.elim
/-- a tuple that is there -/
theorem oldT_ok {xs : List MV} {vs : List V} {p : Addr} (h : Good g W σ φ G H (newT xs μ) (kE g Q)) (r : Rel g φ G μ) (sb : Sub G H) (rv : RVs g φ G xs vs) (hp : SqT g.K G p vs) : Q (.ref p) H := by
  unfold newT at h
  split at h
  · refine h φ G H (Ext.refl sb) r _ ?_
    simp only [RV]
    exact ⟨p, vs, rfl, hp, rv⟩
  · exact h.elim
/-- a new list -/
theorem newL_ok {xs : List MV} {vs : List V} (h : Good g W σ φ G H (newL xs μ) (kE g Q)) (r : Rel g φ G μ) (sb : Sub G H) (rv : RVs g φ G xs vs) : xs.length ≤ sizeLine ∧ ∀ p, H p = none → Q (.ref p) (upd H p (.lst vs)) := by
  unfold newL at h
  split at h
  · rename_i hz
    refine ⟨hz, fun p hp => ?_⟩
    have hG := sb.none hp
    refine h (φ ++ [p]) _ _ (Ext.new sb hp [p]) (r.newL hG rv) _ ?_
    simp only [RV]
    exact ⟨p, rfl, by rw [← r.len, List.getElem?_append_right (Nat.le_refl _), Nat.sub_self]; rfl⟩
  · exact h.elim
theorem mulOk_of {i j : Int} (h : mulOk i j = true) : CMul i j ∨ CMulW i j := by
  unfold mulOk at h
  rw [Bool.or_eq_true, Bool.or_eq_true] at h
  rcases h with (h | h) | h
  · rw [Bool.and_eq_true] at h
    exact .inl (.inl ⟨of_decide_eq_true h.1, of_decide_eq_true h.2⟩)
  · rw [Bool.and_eq_true] at h
    exact .inl (.inr ⟨of_decide_eq_true h.1, of_decide_eq_true h.2⟩)
  · exact .inr (show _ < _ from of_decide_eq_true h)
theorem RVs.rep {xs : List MV} {vs : List V} (h : RVs g φ G xs vs) : ∀ n : Nat, RVs g φ G (List.replicate n xs).flatten (List.replicate n vs).flatten
  | 0 => rvs_nil
  | n + 1 => by
    rw [List.replicate_succ, List.replicate_succ, List.flatten_cons, List.flatten_cons]
    exact h.append (RVs.rep h n)
theorem bin_ok {op : Operator} (hK : g.K = X.K) (I : Inv X pins σ H s) (r : Rel g φ G μ) (sb : Sub G H) (h : Good g W σ φ G H (binM μ op x y) (kE g Q)) (rx : RV g φ G x v) (ry : RV g φ G y w) (ra : RelV v a) (rb : RelV w b) :
    wpAny (model X.prog X.w) X.A (binaryOp op a b) (EP X pins σ Q) X.xe s := by
  unfold binM at h
  split at h
  · -- int + int
    simp only [RV] at rx ry
    subst rx ry
    exact op_add pins s σ H _ _ a b Q I ra rb ⟨_, _, rfl, rfl, h.here sb r _ (by simp only [RV])⟩
  · simp only [RV] at rx ry
    subst rx ry
    split at h
    · exact op_add_str pins s σ H _ _ a b Q I ra rb ⟨_, _, rfl, rfl, by assumption, h.here sb r _ (by simp only [RV])⟩
    · exact h.elim
  · -- tuples
    simp only [RV] at rx ry
    obtain ⟨p, vs, rfl, hp, hv⟩ := rx
    obtain ⟨q, ws, rfl, hq, hw⟩ := ry
    have rv := hv.append hw
    obtain ⟨hz, hnew⟩ := newT_ok h r sb rv
    rw [List.length_append, hv.len, hw.len] at hz
    rw [hK] at hp hq
    refine op_catA pins s σ H _ _ a b Q I ra rb ⟨p, q, vs, ws, rfl, rfl, sqT_sub sb hp, sqT_sub sb hq, hz, fun e => ?_, fun e1 e2 => ?_, fun _ _ => hnew⟩
    · refine oldT_ok h r sb rv ?_
      rw [hK, e]
      exact hq
    · refine oldT_ok h r sb rv ?_
      rw [hK, e2, List.append_nil]
      exact hp
  · -- lists
    rename_i i j
    split at h
    · rename_i xs ys e1 e2
      simp only [RV] at rx ry
      obtain ⟨p, rfl, hp⟩ := rx
      obtain ⟨q, rfl, hq⟩ := ry
      obtain ⟨vs, h1, hv⟩ := r.cell _ _ _ hp e1
      obtain ⟨ws, h2, hw⟩ := r.cell _ _ _ hq e2
      obtain ⟨hz, hnew⟩ := newL_ok h r sb (hv.append hw)
      rw [List.length_append, hv.len, hw.len] at hz
      exact op_cat pins s σ H _ _ a b Q I ra rb ⟨p, q, vs, ws, rfl, rfl, sb _ _ h1, sb _ _ h2, hz, hnew⟩
    · exact h.elim
  · simp only [RV] at rx ry
    subst rx ry
    exact op_sub pins s σ H _ _ a b Q I ra rb ⟨_, _, rfl, rfl, h.here sb r _ (by simp only [RV])⟩
  · -- list * int
    rename_i i n
    split at h
    · rename_i xs e1
      split at h
      · rename_i hn
        simp only [RV] at rx ry
        obtain ⟨p, rfl, hp⟩ := rx
        subst ry
        obtain ⟨vs, h1, hv⟩ := r.cell _ _ _ hp e1
        obtain ⟨hz, hnew⟩ := newL_ok h r sb (hv.rep n.toNat)
        exact op_rep pins s σ H _ _ a b Q I ra rb ⟨p, n, vs, rfl, rfl, sb _ _ h1, by omega, by omega, by rw [← hv.len]; exact hn.2.2, hnew⟩
      · exact h.elim
    · exact h.elim
  · simp only [RV] at rx ry
    subst rx ry
    split at h
    · rename_i hm
      rcases mulOk_of hm with hm | hm
      · exact op_mul pins s σ H _ _ a b Q I ra rb ⟨_, _, rfl, rfl, hm, h.here sb r _ (by simp only [RV])⟩
      · exact op_mulW pins s σ H _ _ a b Q I ra rb ⟨_, _, rfl, rfl, hm, h.here sb r _ (by simp only [RV])⟩
    · exact h.elim
  · simp only [RV] at rx ry
    subst rx ry
    split at h
    · rename_i i j hd
      unfold divOk at hd
      rw [Bool.and_eq_true, Bool.or_eq_true] at hd
      obtain ⟨hd0, hd⟩ := hd
      have hd0 := of_decide_eq_true hd0
      rcases hd with hd | hd
      · exact op_fdivN pins s σ H _ _ a b Q I ra rb ⟨_, _, rfl, rfl, ⟨hd0, of_decide_eq_true hd⟩, h.here sb r _ (by simp only [RV])⟩
      · rw [Bool.and_eq_true] at hd
        have h0 := of_decide_eq_true hd.1
        refine op_fdivW pins s σ H _ _ a b Q I ra rb ⟨_, _, rfl, rfl, ⟨h0, of_decide_eq_true hd.2⟩, h.here sb r _ ?_⟩
        simp only [RV]
        rw [Int.fdiv_eq_ediv_of_nonneg _ (by omega)]
    · exact h.elim
  · simp only [RV] at rx ry
    subst rx ry
    split at h
    · rename_i i j hd
      exact op_modN pins s σ H _ _ a b Q I ra rb ⟨_, _, rfl, rfl, hd, h.here sb r _ (by simp only [RV])⟩
    · exact h.elim
  · exact h.elim
end
end Mch

/-! ## Subscripts, slices, built-ins, methods, isinstance, walks -/
namespace Mch
open PySem PySem.Spec PyProof.Rows L2
section
variable {g : Glob} {W W' : WX} {σ σ' : L2.St} {φ : List Addr} {G H : Hp} {μ : Mem} {x y : MV} {v w : V}
theorem ixM_eq (n : Nat) (i : Int) : ixM n i = ixN n i := rfl
theorem sIxM_eq (n d : Nat) (o : Option Int) : sIxM n d o = HT.sIx n d o := by cases o <;> rfl
theorem at_of {xs : List MV} {vs : List V} {i : Int} {z : MV} (h : (ixM xs.length i).bind (fun j => xs[j]?) = some z) (r : RVs g φ G xs vs) : ∃ u, atI vs i = some u ∧ RV g φ G z u := by
  obtain ⟨j, h1, h2⟩ := Option.bind_eq_some_iff.mp h
  obtain ⟨u, h3, h4⟩ := r.get h2
  refine ⟨u, ?_, h4⟩
  unfold atI
  rw [← r.len, ← ixM_eq, h1]
  exact h3
theorem RVs.cut {xs : List MV} {vs : List V} (r : RVs g φ G xs vs) (lo hi : Option Int) : RVs g φ G (cutM xs lo hi) (cutV vs lo hi) := by
  unfold cutM cutV
  simp only [sIxM_eq, r.len]
  exact (r.drop _).take _
theorem Good.noX {α : Type} {r : R α} {k : KM α} (h : Good g W σ φ G H r k) (n : ∀ x μ, r ≠ .exc x μ) : Good g W' σ' φ G H r k := by
  cases r with
  | ok a μ => exact h
  | exc x μ => exact absurd rfl (n x μ)
  | no => exact h
theorem bls_of : ∀ {xs : List MV} {bs : List Bool} {vs : List V}, bls xs = some bs → RVs g φ G xs vs → vs = bs.map V.bl
  | [], bs, vs, h, r => by
    simp only [bls, Option.some.injEq] at h
    simp only [RVs] at r
    subst h r
    rfl
  | x :: xs, bs, vs, h, r => by
    simp only [RVs] at r
    obtain ⟨v, r1, rfl, hv, hr⟩ := r
    cases x <;> simp only [bls] at h <;> (try cases h)
    rename_i b
    cases e : bls xs with
    | none => rw [e] at h; cases h
    | some bs' =>
      rw [e] at h
      cases h
      simp only [RV] at hv
      subst hv
      rw [bls_of e hr]
      rfl
theorem strs_of : ∀ {xs : List MV} {bs : List Str} {vs : List V}, strs' xs = some bs → RVs g φ G xs vs → vs = bs.map V.str
  | [], bs, vs, h, r => by
    simp only [strs', Option.some.injEq] at h
    simp only [RVs] at r
    subst h r
    rfl
  | x :: xs, bs, vs, h, r => by
    simp only [RVs] at r
    obtain ⟨v, r1, rfl, hv, hr⟩ := r
    cases x <;> simp only [strs'] at h <;> (try cases h)
    rename_i b
    cases e : strs' xs with
    | none => rw [e] at h; cases h
    | some bs' =>
      rw [e] at h
      cases h
      simp only [RV] at hv
      subst hv
      rw [strs_of e hr]
      rfl
theorem bind_lst {α : Type} {f : List MV → Option α} {i : Nat} {z : α} (h : (lstAt μ i).bind f = some z) : ∃ xs, lstAt μ i = some xs ∧ f xs = some z := Option.bind_eq_some_iff.mp h
end
section
variable {X : Cx} {pins : List (Addr × Obj)} {s : Shared} {σ : L2.St} {g : Glob} {φ : List Addr} {G H : Hp} {μ : Mem} {x y : MV} {v w : V} {a b : Value} {W : WX} {Q : VK}
/-! ### a[b] -/
theorem idx_ok {z : MV} {value slice : PySem.Expr} (hK : g.K = X.K) (I : Inv X pins σ H s) (r : Rel g φ G μ) (sb : Sub G H) (h : idxM μ x y = some z) (rx : RV g φ G x v) (ry : RV g φ G y w) (ra : RelV v a) (rb : RelV w b)
    (hs : subscripted slice false a b = operate [a, b] (getItem a b)) (q : ∀ u, RV g φ G z u → Q u H) : wpAny (model X.prog X.w) X.A (subscriptTail value slice a b) (EP X pins σ Q) X.xe s := by
  unfold idxM at h
  split at h
  · simp only [RV] at rx ry
    obtain ⟨p, vs, rfl, hp, hv⟩ := rx
    subst ry
    obtain ⟨u, h1, h2⟩ := at_of h hv
    rw [hK] at hp
    exact ix_tup value slice pins s σ H _ _ a b Q I ra rb ⟨p, vs, _, u, rfl, rfl, sqT_sub sb hp, h1, q u h2⟩ hs
  · obtain ⟨xs, e, h⟩ := bind_lst h
    obtain ⟨p, vs, rfl, _, hp, hv⟩ := r.ref e rx
    simp only [RV] at ry
    subst ry
    obtain ⟨u, h1, h2⟩ := at_of h hv
    rw [hK] at hp
    exact ix_list value slice pins s σ H _ _ a b Q I ra rb ⟨p, vs, _, u, rfl, rfl, sqL_sub sb hp, h1, q u h2⟩ hs
  · simp only [RV] at rx ry
    subst rx ry
    split at h
    · rename_i z' i hz
      obtain ⟨j, h1, h2⟩ := Option.bind_eq_some_iff.mp h
      obtain ⟨c, h3, h4⟩ := Option.map_eq_some_iff.mp h2
      subst h4
      refine ix_str value slice pins s σ H _ _ a b Q I ra rb ⟨_, _, c, rfl, rfl, hz, ?_, q _ (by simp only [RV])⟩ hs
      unfold atI
      rw [← ixM_eq, h1]
      exact h3
    · cases h
  · cases h
/-! ### a[lo:hi] -/
theorem slc_noX {lo hi : Option Int} (x' : MX) (μ' : Mem) : slcM μ x lo hi ≠ .exc x' μ' := by
  unfold slcM newT newL
  split
  · split <;> simp
  · split
    · split <;> simp
    · simp
  · split <;> simp
  · simp
def rSl (g : Glob) : V → Option Int → Option Int → Hp → VK → Prop := fun v lo hi H Q => ∃ φ G μ x, Sub G H ∧ Rel g φ G μ ∧ RV g φ G x v ∧ Good g (fun _ _ _ _ => False) [] φ G H (slcM μ x lo hi) (kE g Q)
theorem sl_ok (hK : g.K = X.K) : SlR X (rSl g) := by
  intro pins s σ H v a vl vu lo hi sl Q I ra hs pl pu h
  obtain ⟨φ, G, μ, x, sb, r, rx, h⟩ := h
  unfold slcM at h
  split at h
  · simp only [RV] at rx
    obtain ⟨p, vs, rfl, hp, hv⟩ := rx
    have rv := hv.cut lo hi
    obtain ⟨hz, hn⟩ := newT_ok h r sb rv
    refine sl_tupA pins s σ H _ a vl vu lo hi sl Q I ra hs pl pu ⟨p, vs, rfl, by rw [← hK]; exact sqT_sub sb hp, fun e => ?_, fun _ => hn⟩
    refine oldT_ok h r sb rv ?_
    have e2 : cutV vs lo hi = vs := by
      unfold cutV
      rw [e.1, e.2]
      simp
    rw [e2]
    exact hp
  · split at h
    · rename_i i xs e
      obtain ⟨p, vs, rfl, _, hp, hv⟩ := r.ref e rx
      obtain ⟨hz, hn⟩ := newL_ok h r sb (hv.cut lo hi)
      exact sl_list pins s σ H _ a vl vu lo hi sl Q I ra hs pl pu ⟨p, vs, rfl, by rw [← hK]; exact sqL_sub sb hp, hn⟩
    · exact h.elim
  · split at h
    · rename_i z hz
      simp only [RV] at rx
      subst rx
      refine sl_str pins s σ H _ a vl vu lo hi sl Q I ra hs pl pu ⟨z, rfl, hz, ?_⟩
      refine h.here sb r _ ?_
      simp only [RV]
      unfold cutS cutM
      simp only [sIxM_eq]
      rfl
    · exact h.elim
  · exact h.elim
/-! ### xs[i] = v -/
theorem set_ok {z : MV} {u : V} {c : Value} {Q : Hp → Prop} (I : Inv X pins σ H s) (r : Rel g φ G μ) (sb : Sub G H) (h : Good g W σ φ G H (setM μ x y z) fun _ _ _ _ H1 => Q H1) (rx : RV g φ G x v) (ry : RV g φ G y w) (rz : RV g φ G z u) (ra : RelV v a) (rb : RelV w b) (rc : RelV u c) :
    wpAny (model X.prog X.w) X.A (setItem a b c) (fun _ s' => ∃ H', Inv X pins σ H' s' ∧ Q H') X.xe s := by
  unfold setM at h
  split at h
  · split at h
    · rename_i i k z' xs e
      split at h
      · rename_i j hj
        simp only [RV] at rx ry
        obtain ⟨p, rfl, hp⟩ := rx
        subst ry
        obtain ⟨vs, h1, hv⟩ := r.cell _ _ _ hp e
        refine set_list pins s σ H _ _ u a b c Q I ra rb rc ⟨p, vs, _, j, rfl, rfl, sb _ _ h1, by rw [← hv.len, ← ixM_eq]; exact hj, ?_⟩
        exact h φ _ _ (Ext.set sb h1 fun z => z) (r.setL hp e (hv.set j rz))
      · exact h.elim
    · exact h.elim
  · exact h.elim
/-! ### built-ins by values -/
def biName : BI → Str
  | .abs => "abs" | .len => "len" | .all => "all" | .any => "any" | .int => "int" | .str => "str" | .tuple => "tuple" | .list => "list" | .sum => "sum" | .min => "min" | .max => "max"
def biVal : BI → Value
  | .abs => .builtin "abs" | .len => .builtin "len" | .all => .builtin "all" | .any => .builtin "any" | .int => .type "int" | .str => .type "str" | .tuple => .type "tuple" | .list => .type "list" | .sum => .builtin "sum" | .min => .builtin "min" | .max => .builtin "max"
theorem bi_boot (b : BI) : bootBuiltins (biName b) = some (biVal b) := by
  cases b <;> decide +kernel
theorem bi_ok {bb : BI} {xs : List MV} {vs : List V} {us : List Value} (hc : X.calm = true) (hK : g.K = X.K) (I : Inv X pins σ H s) (r : Rel g φ G μ) (sb : Sub G H) (h : Good g W σ φ G H (biM μ bb xs) (kE g Q)) (rx : RVs g φ G xs vs) (ra : Vals vs us) :
    wpAny (model X.prog X.w) X.A (call (biVal bb) us) (EP X pins σ Q) X.xe s := by
  unfold biM at h
  split at h
  · obtain ⟨v, rfl, hv⟩ := rx.one
    simp only [RV] at hv
    subst hv
    exact call_abs pins s σ H _ us Q I ra ⟨_, rfl, h.here sb r _ (by simp only [RV])⟩
  · obtain ⟨v, rfl, hv⟩ := rx.one
    simp only [RV] at hv
    subst hv
    split at h
    · rename_i hz
      exact call_len pins s σ H _ us Q I ra ⟨_, _, rfl, ⟨hz, rfl⟩, h.here sb r _ (by simp only [RV])⟩
    · exact h.elim
  · obtain ⟨v, rfl, hv⟩ := rx.one
    simp only [RV] at hv
    obtain ⟨p, ws, rfl, hp, hw⟩ := hv
    rw [hK] at hp
    exact call_len pins s σ H _ us Q I ra ⟨_, _, rfl, .inr ⟨ws, sqT_sub sb hp, rfl⟩, h.here sb r _ (by simp only [RV]; rw [hw.len])⟩
  · obtain ⟨v, rfl, hv⟩ := rx.one
    split at h
    · rename_i i ys e
      obtain ⟨p, ws, rfl, _, hp, hw⟩ := r.ref e hv
      rw [hK] at hp
      exact call_len pins s σ H _ us Q I ra ⟨_, _, rfl, .inl ⟨ws, sqL_sub sb hp, rfl⟩, h.here sb r _ (by simp only [RV]; rw [hw.len])⟩
    · exact h.elim
  · obtain ⟨v, rfl, hv⟩ := rx.one
    split at h
    · rename_i i bs e
      obtain ⟨ys, e, eb⟩ := bind_lst e
      obtain ⟨p, ws, rfl, _, hp, hw⟩ := r.ref e hv
      rw [hK, bls_of eb hw] at hp
      exact cr_all hc pins s σ H _ us Q I ra ⟨p, bs, rfl, sqL_sub sb hp, h.here sb r _ (by simp only [RV])⟩
    · exact h.elim
  · obtain ⟨v, rfl, hv⟩ := rx.one
    split at h
    · rename_i i bs e
      obtain ⟨ys, e, eb⟩ := bind_lst e
      obtain ⟨p, ws, rfl, _, hp, hw⟩ := r.ref e hv
      rw [hK, bls_of eb hw] at hp
      exact cr_any hc pins s σ H _ us Q I ra ⟨p, bs, rfl, sqL_sub sb hp, h.here sb r _ (by simp only [RV])⟩
    · exact h.elim
  · obtain ⟨v, rfl, hv⟩ := rx.one
    simp only [RV] at hv
    subst hv
    exact call_int1 pins s σ H _ us Q I ra (.inl ⟨_, rfl, h.here sb r _ (by simp only [RV])⟩)
  · obtain ⟨v, rfl, hv⟩ := rx.one
    simp only [RV] at hv
    subst hv
    exact call_int1 pins s σ H _ us Q I ra (.inr ⟨_, rfl, h.here sb r _ (by simp only [RV])⟩)
  · obtain ⟨v, rfl, hv⟩ := rx.one
    simp only [RV] at hv
    subst hv
    split at h
    · rename_i hz
      exact call_str_int pins s σ H _ us Q I ra ⟨_, rfl, hz, h.here sb r _ (by simp only [RV])⟩
    · exact h.elim
  · obtain ⟨v, rfl, hv⟩ := rx.one
    split at h
    · rename_i i ys e
      obtain ⟨p, ws, rfl, _, hp, hw⟩ := r.ref e hv
      rw [hK] at hp
      refine call_tuple_of pins s σ H _ us Q I ra ⟨p, ws, rfl, .inl ⟨sqL_sub sb hp, fun l hl => ?_⟩⟩
      have hG := sb.none hl
      have e : Ext none φ G H φ (upd G l (.tup ws)) (upd H l (.tup ws)) := by
        have := Ext.new (ex := none) (φ := φ) sb (o := .tup ws) hl []
        rwa [List.append_nil] at this
      refine h φ _ _ e (r.grow (sub_new hG)) _ ?_
      simp only [RV]
      exact ⟨l, ws, rfl, SqT.of upd_same, hw.ext e⟩
    · exact h.elim
  · obtain ⟨v, rfl, hv⟩ := rx.one
    have q := h.here sb r v hv
    simp only [RV] at hv
    obtain ⟨p, ws, rfl, hp, hw⟩ := hv
    rw [hK] at hp
    exact call_tuple_of pins s σ H _ us Q I ra ⟨p, ws, rfl, .inr ⟨sqT_sub sb hp, q⟩⟩
  · obtain ⟨v, rfl, hv⟩ := rx.one
    split at h
    · rename_i i ys e
      obtain ⟨p, ws, rfl, _, hp, hw⟩ := r.ref e hv
      rw [hK] at hp
      exact call_list_of pins s σ H _ us Q I ra ⟨p, ws, rfl, .inl (sqL_sub sb hp), (newL_ok h r sb hw).2⟩
    · exact h.elim
  · obtain ⟨v, rfl, hv⟩ := rx.one
    simp only [RV] at hv
    obtain ⟨p, ws, rfl, hp, hw⟩ := hv
    rw [hK] at hp
    exact call_list_of pins s σ H _ us Q I ra ⟨p, ws, rfl, .inr (sqT_sub sb hp), (newL_ok h r sb hw).2⟩
  · exact h.elim
/-! ### methods of built-in types -/
def mtName : Mt → Str
  | .append => "append" | .join => "join"
def mtTy : Mt → String
  | .append => "list" | .join => "str"
def mtId : Mt → String
  | .append => "list.append" | .join => "str.join"
theorem mt_pa (m : Mt) : PlainAttrs (mtTy m) := by
  cases m
  · exact PySem.F.plainAttrs_list
  · exact PySem.F.plainAttrs_str
theorem mt_slot (m : Mt) : Slot (mtTy m) (mtName m) (mtId m) := by
  cases m
  · exact PySem.F.slot_list_append
  · exact PySem.F.slot_str_join
theorem mt_type (m : Mt) : typeOf (.builtin (mtId m)) = pure (.type "method_descriptor") := by
  cases m
  · exact PySem.F.type_list_append
  · exact PySem.F.type_str_join
/-- the receiver is of the method's type -/
theorem mth_ty {m : Mt} (hm : mthTy μ m x = true) (r : Rel g φ G μ) (sb : Sub G H) (rx : RV g φ G x v) : tyV g.K (mtTy m) v H := by
  unfold mthTy at hm
  split at hm
  · rename_i i
    cases e : lstAt μ i with
    | none => rw [e] at hm; cases hm
    | some xs =>
      obtain ⟨a, vs, rfl, _, hq, hr⟩ := r.ref e rx
      exact .inl ⟨rfl, vs, sqL_sub sb hq⟩
  · simp only [RV] at rx
    subst rx
    rfl
  · cases hm
theorem mth_noX {m : Mt} {xs : List MV} (x' : MX) (μ' : Mem) : mthM μ m x xs ≠ .exc x' μ' := by
  unfold mthM
  split
  · split
    · split <;> simp
    · simp
  · split
    · split <;> simp
    · simp
  · simp
theorem bi_noX {b : BI} {xs : List MV} (x' : MX) (μ' : Mem) : biM μ b xs ≠ .exc x' μ' := by
  unfold biM newL
  split <;> (try simp) <;> (split <;> (try simp) <;> (try (split <;> simp)))
theorem mth_ok {m : Mt} {xs : List MV} {vs : List V} {us : List Value} (hK : g.K = X.K) (I : Inv X pins σ H s) (r : Rel g φ G μ) (sb : Sub G H) (h : Good g W σ φ G H (mthM μ m x xs) (kE g Q)) (rx : RV g φ G x v) (rs : RVs g φ G xs vs) (ra : RelV v a) (rb : Vals vs us) :
    wpAny (model X.prog X.w) X.A (call (.builtin (mtId m)) (a :: us)) (EP X pins σ Q) X.xe s := by
  unfold mthM at h
  split at h
  · split at h
    · rename_i i z xs' e
      split at h
      · rename_i hz
        simp only [RV] at rx
        obtain ⟨p, rfl, hp⟩ := rx
        obtain ⟨ws, h1, hw⟩ := r.cell _ _ _ hp e
        obtain ⟨u, rfl, hu⟩ := rs.one
        refine mt_append pins s σ H _ _ a us Q I ra rb ⟨p, ws, u, rfl, rfl, sb _ _ h1, by rw [← hw.len]; exact hz, ?_⟩
        exact h φ _ _ (Ext.set sb h1 fun z => z) (r.setL hp e (hw.append (rvs_cons hu rvs_nil))) _ (by simp only [RV])
      · exact h.elim
    · exact h.elim
  · split at h
    · rename_i z i ys e
      split at h
      · rename_i hz
        obtain ⟨zs, e, eb⟩ := bind_lst e
        simp only [RV] at rx
        subst rx
        obtain ⟨u, rfl, hu⟩ := rs.one
        obtain ⟨p, ws, rfl, _, hp, hw⟩ := r.ref e hu
        rw [hK, strs_of eb hw] at hp
        exact mt_join pins s σ H _ _ a us Q I ra rb ⟨_, p, ys, rfl, rfl, .inl (sqL_sub sb hp), hz, h.here sb r _ (by simp only [RV])⟩
      · exact h.elim
    · exact h.elim
  · exact h.elim
end
/-! ### isinstance -/
/-- the built-in types as names -/
def tyNm : TyR → String
  | .int => "int" | .bool => "bool" | .str => "str" | .list => "list" | .tuple => "tuple" | .dict => "dict" | .cls _ => ""
def tyCl (g : Glob) : TyR → Option Value
  | .cls c => (g.cA c).map .ref
  | t => some (.type (tyNm t))
/-- what the head says of isinstance where own classes are in it -/
structure KitG (g : Glob) : Prop where
  b2o : ∀ n : String, n ∈ ["NoneType", "bool", "int", "str", "tuple", "list"] → ∀ c C, g.cA c = some C → PySem.W.kitOne g.K (.type n) (.ref C) = some false
  o2b : ∀ t : TyR, (∀ c, t ≠ .cls c) → ∀ c C Cl, g.cA c = some C → g.P.clss[c]? = some Cl → Cl.exc = false → PySem.W.kitOne g.K (.ref C) (.type (tyNm t)) = some false
  ins : ∀ c C Cl, g.cA c = some C → g.P.clss[c]? = some Cl → Cl.exc = false → ∀ (H : Hp) a dx fs, H a = some (.ins C dx fs) → TyOf g.K H (.ref a) (.ref C)
  o2o : ∀ c d C D Cl, g.cA c = some C → g.cA d = some D → g.P.clss[c]? = some Cl → Cl.exc = false → PySem.W.kitOne g.K (.ref C) (.ref D) = some (decide (d ∈ Cl.up))
section
variable {g : Glob} {φ : List Addr} {G H : Hp} {μ : Mem} {x y : MV} {v w : V}
theorem tyX_list {K : PySem.W.Frag} {a : Addr} {vs : List V} (h : SqL K H a vs) : TyX K H (.ref a) (.type "list") := by
  rcases h with (h | ⟨o, h⟩) | ⟨o, its, n, h, hc, _⟩
  · exact .base (.lst h)
  · exact .base (.frz h)
  · exact .kList h hc
theorem tyX_tup {K : PySem.W.Frag} {a : Addr} {vs : List V} (h : SqT K H a vs) : TyX K H (.ref a) (.type "tuple") := by
  rcases h with (h | ⟨o, h⟩) | ⟨o, its, n, h, hc, _⟩
  · exact .base (.tup h)
  · exact .fTuple h
  · exact .kTuple h hc
/-- the type of a value -/
def tyOfM (g : Glob) (μ : Mem) : MV → Option Value
  | .non => some (.type "NoneType") | .bl _ => some (.type "bool") | .int _ => some (.type "int") | .str _ => some (.type "str") | .tup _ => some (.type "tuple")
  | .ref i => (lstAt μ i).map fun _ => .type "list"
  | .obj c _ => (match g.P.clss[c]? with
    | some Cl => if Cl.exc then none else (g.cA c).map .ref
    | none => none)
  | _ => none
theorem tyOf_ok {t : Value} (hP : KitG g) (h : tyOfM g μ x = some t) (r : Rel g φ G μ) (sb : Sub G H) (rx : RV g φ G x v) : TyX g.K H v t := by
  cases x with
  | non => simp only [RV] at rx; subst rx; cases h; exact .base .non
  | bl b => simp only [RV] at rx; subst rx; cases h; exact .base (.bl b)
  | int b => simp only [RV] at rx; subst rx; cases h; exact .base (.int b)
  | str b => simp only [RV] at rx; subst rx; cases h; exact .base (.str b)
  | tup xs =>
    simp only [RV] at rx
    obtain ⟨a, vs, rfl, hq, hr⟩ := rx
    cases h
    exact tyX_tup (sqT_sub sb hq)
  | ref i =>
    simp only [tyOfM] at h
    cases e : lstAt μ i with
    | none => rw [e] at h; cases h
    | some xs =>
      rw [e] at h
      cases h
      obtain ⟨a, vs, rfl, _, hq, hr⟩ := r.ref e rx
      exact tyX_list (sqL_sub sb hq)
  | obj c xs =>
    simp only [RV] at rx
    obtain ⟨a, C, dx, fs, Cl, rfl, hc, hg, hl, _⟩ := rx
    simp only [tyOfM, hc, hl] at h
    split at h
    · cases h
    · rename_i he
      cases h
      exact .base (hP.ins c C Cl hc hl (by simpa using he) H a dx fs (sb _ _ hg))
  | fn _ => cases h
  | rng _ _ _ => cases h
  | zp _ _ => cases h
  | en _ => cases h
  | exn _ _ => cases h
theorem kit_bb : ∀ n : String, n ∈ ["NoneType", "bool", "int", "str", "tuple", "list"] → ∀ t : TyR, (∀ c, t ≠ .cls c) → kitB n (tyNm t) = some (decide (n = tyNm t ∨ (n = "bool" ∧ tyNm t = "int"))) := by
  intro n hn t ht
  have h : ∀ n ∈ ["NoneType", "bool", "int", "str", "tuple", "list"], ∀ t ∈ [TyR.int, .bool, .str, .list, .tuple, .dict], kitB n (tyNm t) = some (decide (n = tyNm t ∨ (n = "bool" ∧ tyNm t = "int"))) := by decide +kernel
  refine h n hn t ?_
  cases t with
  | cls c => exact absurd rfl (ht c)
  | _ => simp
theorem tyM_ok {t : TyR} {k : Bool} (hP : KitG g) (h : tyM g.P μ x t = some k) (r : Rel g φ G μ) (sb : Sub G H) (rx : RV g φ G x v) {u : Value} (hu : tyCl g t = some u) : ∃ tv, tyOfM g μ x = some tv ∧ PySem.W.kitOne g.K tv u = some k := by
  have both : (∃ c, t = .cls c) ∨ ∀ c, t ≠ .cls c := by cases t <;> simp
  rcases both with ⟨c, rfl⟩ | nt
  · simp only [tyCl, Option.map_eq_some_iff] at hu
    obtain ⟨C, hC, rfl⟩ := hu
    cases x <;> simp only [tyM] at h
    · cases h; exact ⟨_, rfl, hP.b2o _ (by simp) c C hC⟩
    · cases h; exact ⟨_, rfl, hP.b2o _ (by simp) c C hC⟩
    · cases h; exact ⟨_, rfl, hP.b2o _ (by simp) c C hC⟩
    · cases h; exact ⟨_, rfl, hP.b2o _ (by simp) c C hC⟩
    · cases h; exact ⟨_, rfl, hP.b2o _ (by simp) c C hC⟩
    · rename_i i
      cases e : lstAt μ i with
      | none => rw [e] at h; cases h
      | some xs =>
        rw [e] at h
        cases h
        exact ⟨.type "list", by simp only [tyOfM, e, Option.map_some], hP.b2o _ (by simp) c C hC⟩
    · rename_i d vs
      simp only [RV] at rx
      obtain ⟨a, D, dx, fs, Cl, rfl, hD, hg, hl, _⟩ := rx
      rw [hl] at h
      simp only at h
      split at h
      · cases h
      · rename_i he
        cases h
        have he' : Cl.exc = false := by simpa using he
        exact ⟨.ref D, by simp only [tyOfM, hl, he', hD, Option.map_some, Bool.false_eq_true, if_false], hP.o2o d c D C Cl hD hC hl he'⟩
    all_goals cases h
  · have hu' : u = .type (tyNm t) := by
      cases t <;> first | (exact absurd rfl (nt _)) | (simp only [tyCl, Option.some.injEq] at hu; exact hu.symm)
    subst hu'
    have kb : ∀ n : String, n ∈ ["NoneType", "bool", "int", "str", "tuple", "list"] → PySem.W.kitOne g.K (.type n) (.type (tyNm t)) = some (decide (n = tyNm t ∨ (n = "bool" ∧ tyNm t = "int"))) := fun n hn => kit_ty (kit_bb n hn t nt)
    have hk : ∀ n : String, n ∈ ["NoneType", "bool", "int", "str", "tuple", "list"] → decide (n = tyNm t ∨ (n = "bool" ∧ tyNm t = "int")) = k → PySem.W.kitOne g.K (.type n) (.type (tyNm t)) = some k := fun n hn e => by rw [kb n hn, e]
    cases x with
    | non => refine ⟨_, rfl, hk _ (by simp) ?_⟩; cases t <;> simp only [tyM] at h <;> first | (cases h; decide) | exact absurd rfl (nt _)
    | bl b => refine ⟨_, rfl, hk _ (by simp) ?_⟩; cases t <;> simp only [tyM] at h <;> first | (cases h; decide) | exact absurd rfl (nt _)
    | int b => refine ⟨_, rfl, hk _ (by simp) ?_⟩; cases t <;> simp only [tyM] at h <;> first | (cases h; decide) | exact absurd rfl (nt _)
    | str b => refine ⟨_, rfl, hk _ (by simp) ?_⟩; cases t <;> simp only [tyM] at h <;> first | (cases h; decide) | exact absurd rfl (nt _)
    | tup b => refine ⟨_, rfl, hk _ (by simp) ?_⟩; cases t <;> simp only [tyM] at h <;> first | (cases h; decide) | exact absurd rfl (nt _)
    | ref i =>
      have h' : (lstAt μ i).map (fun _ => decide (t = .list)) = some k := by cases t <;> first | exact absurd rfl (nt _) | exact h
      cases e : lstAt μ i with
      | none => rw [e] at h'; cases h'
      | some xs =>
        rw [e] at h'
        simp only [Option.map_some, Option.some.injEq] at h'
        refine ⟨.type "list", by simp only [tyOfM, e, Option.map_some], hk _ (by simp) ?_⟩
        cases t <;> first | (rw [← h']; decide) | exact absurd rfl (nt _)
    | obj c vs =>
      simp only [RV] at rx
      obtain ⟨a, D, dx, fs, Cl, rfl, hD, hg, hl, _⟩ := rx
      have h' : (if Cl.exc = true then none else some false) = some k := by cases t <;> first | exact absurd rfl (nt _) | (simp only [tyM, hl] at h; exact h)
      split at h'
      · cases h'
      · rename_i he
        cases h'
        have he' : Cl.exc = false := by simpa using he
        exact ⟨.ref D, by simp only [tyOfM, hl, he', hD, Option.map_some, Bool.false_eq_true, if_false], hP.o2b t nt c D Cl hD hl he'⟩
    | fn _ => cases t <;> simp only [tyM] at h <;> first | cases h | exact absurd rfl (nt _)
    | rng _ _ _ => cases t <;> simp only [tyM] at h <;> first | cases h | exact absurd rfl (nt _)
    | zp _ _ => cases t <;> simp only [tyM] at h <;> first | cases h | exact absurd rfl (nt _)
    | en _ => cases t <;> simp only [tyM] at h <;> first | cases h | exact absurd rfl (nt _)
    | exn _ _ => cases t <;> simp only [tyM] at h <;> first | cases h | exact absurd rfl (nt _)
theorem tysM_ok (hP : KitG g) (r : Rel g φ G μ) (sb : Sub G H) (rx : RV g φ G x v) {tv : Value} (ht : tyOfM g μ x = some tv) : ∀ (ts : List TyR) (us : List Value) (k : Bool), tysM g.P μ x ts = some k → Paired (fun t u => tyCl g t = some u) ts us → PySem.W.kitAny g.K tv us = some k
  | [], us, k, h, p => by
    cases p
    simp only [tysM, Option.some.injEq] at h
    subst h
    exact kitAny_nil
  | t :: ts, us, k, h, p => by
    cases p with
    | cons hu pr =>
      simp only [tysM] at h
      split at h
      · rename_i e
        cases h
        obtain ⟨tv', h1, h2⟩ := tyM_ok hP e r sb rx hu
        rw [ht] at h1
        cases h1
        exact kitAny_cons h2 (fun z => by cases z) fun _ => rfl
      · rename_i e
        obtain ⟨tv', h1, h2⟩ := tyM_ok hP e r sb rx hu
        rw [ht] at h1
        cases h1
        exact kitAny_cons h2 (fun _ => tysM_ok hP r sb rx ht ts _ k h pr) fun z => by cases z
      · cases h
end
end Mch

/-! ## Expressions: each form's rule -/
namespace Mch
open PySem PySem.Spec PyProof.Rows L2
/-! ### the form of the syntax -/
def plain : PySem.Expr → Bool
  | .Starred _ _ => false
  | _ => true
def notIf : PySem.Expr → Bool
  | .IfExp _ _ _ _ => false
  | _ => true
def notSlice : PySem.Expr → Bool
  | .Slice _ _ _ _ => false
  | _ => true
def notSet : PySem.Expr → Bool
  | .Set _ _ _ => false
  | _ => true
theorem star_cons {e : PySem.Expr} {es : List PySem.Expr} {env : PySem.Env} (h : plain e = true) : starEach (e :: es) env = (false, eval e env) :: starEach es env := by
  cases e <;> first | rfl | cases h
theorem star_any {es : List PySem.Expr} {env : PySem.Env} {pos : Pos} (h : es.all plain = true) : (backTo pos (starEach es env)).any (·.1) = false := by
  induction es with
  | nil => rfl
  | cons e es ih =>
    rw [List.all_cons, Bool.and_eq_true] at h
    rw [star_cons h.1]
    have := ih h.2
    unfold backTo at this ⊢
    rw [List.map_cons, List.any_cons, this]
    rfl
theorem plainIx_of {b : PySem.Expr} (h : notSlice b = true) : PlainIx b := by
  intro o i
  cases b <;> first | rfl | cases h
theorem noSet_of {b : PySem.Expr} {op : CmpOp} (h : notSet b = true) : behindInMarks op b = false := by
  cases b <;> first | rfl | cases h
theorem fold_of {b : PySem.Expr} {env : PySem.Env} (h : notSet b = true) (x : Value) : foldedSetIterable b env x = pure x := by
  cases b <;> first | rfl | cases h
section
variable {X : Cx} {g : Glob} {T : Tab} {W : WX} {md : Md} {a b c : PySem.Expr} {A B C : E} {pos : Pos}
/-- an expression of the machine read on: the first part, then the rest -/
theorem tE_imp {σ : L2.St} {H : Hp} {Q Q' : VK} (h : tE g T W md A σ H Q) (f : ∀ v H1, Q v H1 → Q' v H1) : tE g T W md A σ H Q' := by
  obtain ⟨φ, G, μ, σm, s, r, e, h⟩ := h
  exact ⟨φ, G, μ, σm, s, r, e, h.imp fun _ _ _ _ _ _ _ k w hw => f _ _ (k w hw)⟩
theorem tT_tE {σ : L2.St} {H : Hp} {Q : Bool → Hp → Prop} (h : tT g T W md A σ H Q) : tE g T W md A σ H fun x H1 => ∃ k, TruV g.K x H1 k ∧ Q k H1 := by
  obtain ⟨φ, G, μ, σm, s, r, e, h⟩ := h
  refine ⟨φ, G, μ, σm, s, r, e, h.bind.imp fun v μ1 φ1 G1 H1 e1 r1 k w hw => ?_⟩
  obtain ⟨b, hb, q⟩ := Good.opt k e1.sub r1
  exact ⟨b, tru_of hb hw r1 e1.sub, q⟩
/-- a test by its value's truth -/
theorem pt_tru (hK : g.K = X.K) (ha : PE X a (tE g T W md A)) (he : ∀ whole, isTrue a X.env whole = (do let v ← whole; standAt a.pos; holding [v] (truthy v))) : PT X a (tT g T W md A) := by
  refine ⟨fun pins s σ H Q I h => (pt_truth ha he).run pins s σ H Q I ?_⟩
  rw [← hK]
  exact tT_tE h
/-! ### constants and names -/
theorem se_const {v : MV} {u : V} (he : PE X a (tC u)) (hv : ∀ φ G, RV g φ G v u) (ev : ∀ σ μ, evE T A σ μ = .ok v μ) : PE X a (tE g T W md A) := by
  refine ⟨fun pins s σ H Q I h => he.run pins s σ H Q I ?_⟩
  obtain ⟨φ, G, μ, σm, sb, r, e, h⟩ := h
  rw [ev] at h
  exact h.here sb r _ (hv φ G)
theorem tE_var {σ : L2.St} {H : Hp} {Q : VK} {i : Nat} (hi : md.ex i = false) (h : tE g T W md (.var i) σ H Q) : tVar i σ H Q := by
  obtain ⟨φ, G, μ, σm, sb, r, e, h⟩ := h
  simp only [evE] at h
  split at h
  · rename_i v hv
    obtain ⟨w, hw, rw'⟩ := e.env.2 i v hv hi
    exact ⟨w, hw, h.here sb r w rw'⟩
  · exact h.elim
theorem se_var {i : Nat} (he : PE X a (tVar i)) (hi : md.ex i = false) : PE X a (tE g T W md (.var i)) :=
  ⟨fun pins s σ H Q I h => he.run pins s σ H Q I (tE_var hi h)⟩
/-! ### operators -/
theorem se_bin {op : Operator} (hK : g.K = X.K) (ha : PE X a (tE g T W md A)) (hb : PE X b (tE g T W md B)) : PE X (.BinOp a op b pos) (tE g T W md (.bin op A B)) := by
  refine ⟨fun pins s σ H Q I h => ?_⟩
  obtain ⟨φ, G, μ, σm, sb, r, e, h⟩ := h
  simp only [evE] at h
  refine wpAny_BinOp (bin ha hb (R := fun x y H2 => ∃ φ G μ v u, Sub G H2 ∧ Rel g φ G μ ∧ RV g φ G v x ∧ RV g φ G u y ∧ Good g W σ φ G H2 (binM μ op v u) (kE g Q)) I ⟨φ, G, μ, σm, sb, r, e, h.bind.imp fun v μ1 φ1 G1 H1 e1 r1 k w hw =>
    ⟨φ1, G1, μ1, σm, e1.sub, r1, e.ext e1, k.bind.imp fun u μ2 φ2 G2 H2 e2 r2 k w' hw' => ⟨φ2, G2, μ2, v, u, e2.sub, r2, hw.ext e2, hw', k⟩⟩⟩ fun v u s2 x y H2 I2 rx ry q => ?_)
  obtain ⟨φ2, G2, μ2, v', u', sb2, r2, rv, ru, q⟩ := q
  exact bin_ok hK I2 r2 sb2 q rv ru rx ry
theorem se_neg (ha : PE X a (tE g T W md A)) : PE X (.UnaryOp .USub a pos) (tE g T W md (.neg A)) := by
  refine ⟨fun pins s σ H Q I h => (pe_un un_neg ha).run pins s σ H Q I ?_⟩
  obtain ⟨φ, G, μ, σm, sb, r, e, h⟩ := h
  simp only [evE] at h
  refine ⟨φ, G, μ, σm, sb, r, e, h.bind.imp fun v μ1 φ1 G1 H1 e1 r1 k w hw => ?_⟩
  split at k
  · simp only [RV] at hw
    subst hw
    exact ⟨_, rfl, k.here e1.sub r1 _ (by simp only [RV])⟩
  · exact k.elim
theorem se_not (hK : g.K = X.K) (ha : PE X a (tE g T W md A)) : PE X (.UnaryOp .Not a pos) (tE g T W md (.not A)) := by
  refine ⟨fun pins s σ H Q I h => (pe_notT ha).run pins s σ H Q I ?_⟩
  obtain ⟨φ, G, μ, σm, sb, r, e, h⟩ := h
  simp only [evE] at h
  refine ⟨φ, G, μ, σm, sb, r, e, h.bind.imp fun v μ1 φ1 G1 H1 e1 r1 k w hw => ?_⟩
  obtain ⟨b, hb, q⟩ := Good.opt k.bind e1.sub r1
  rw [← hK]
  exact ⟨b, tru_of hb hw r1 e1.sub, q.here e1.sub r1 _ (by simp only [RV])⟩
theorem st_not (ha : PT X a (tT g T W md A)) : PT X (.UnaryOp .Not a pos) (tT g T W md (.not A)) := by
  refine ⟨fun pins s σ H Q I h => (pt_not ha).run pins s σ H Q I ?_⟩
  obtain ⟨φ, G, μ, σm, sb, r, e, h⟩ := h
  refine ⟨φ, G, μ, σm, sb, r, e, ?_⟩
  simp only [evE] at h
  cases e0 : evE T A σm μ with
  | ok v μ1 =>
    rw [e0] at h
    simp only [R.bind] at h ⊢
    unfold truR at h ⊢
    cases e1 : truM μ1 v with
    | none => rw [e1] at h; exact h.elim
    | some b =>
      rw [e1] at h
      exact h
  | exc x μ1 => rw [e0] at h; exact h
  | no => rw [e0] at h; exact h
theorem se_cmp {op : CmpOp} (hK : g.K = X.K) (hu : X.A.units + 64 < cLine) (hm : notSet b = true) (ha : PE X a (tE g T W md A)) (hb : PE X b (tE g T W md B)) : PE X (.Compare a [op] [b] pos) (tE g T W md (.cmp op A B)) := by
  refine ⟨fun pins s σ H Q I h => ?_⟩
  obtain ⟨φ, G, μ, σm, sb, r, e, h⟩ := h
  simp only [evE] at h
  refine wpAny_Compare1 (bin ha hb (R := fun x y H2 => ∃ φ G μ v u, Sub G H2 ∧ Rel g φ G μ ∧ RV g φ G v x ∧ RV g φ G u y ∧ ∃ k, cmpM μ op v u = some k ∧ Q (.bl k) H2) I ⟨φ, G, μ, σm, sb, r, e, h.bind.imp fun v μ1 φ1 G1 H1 e1 r1 k w hw =>
    ⟨φ1, G1, μ1, σm, e1.sub, r1, e.ext e1, k.bind.imp fun u μ2 φ2 G2 H2 e2 r2 k w' hw' => ?_⟩⟩ fun v u s2 x y H2 I2 rx ry q => ?_) (noSet_of hm)
  · obtain ⟨b', hb', q⟩ := Good.opt k.bind e2.sub r2
    exact ⟨φ2, G2, μ2, v, u, e2.sub, r2, hw.ext e2, hw', b', hb', q.here e2.sub r2 _ (by simp only [RV])⟩
  · obtain ⟨φ2, G2, μ2, v', u', sb2, r2, rv, ru, k, hk, q⟩ := q
    exact cmp_ok hK hu I2 r2 sb2 hk rv ru rx ry q
/-- a comparison's rule, whatever the values (for the chain's) -/
def rCmp (g : Glob) (op : CmpOp) : R2 := fun x y H Q => ∃ φ G μ v u k, Sub G H ∧ Rel g φ G μ ∧ RV g φ G v x ∧ RV g φ G u y ∧ cmpM μ op v u = some k ∧ Q (.bl k) H
theorem op_cmp {op : CmpOp} (hK : g.K = X.K) (hu : X.A.units + 64 < cLine) : OpR X (compareOp op) (rCmp g op) := by
  intro pins s σ H x y v u Q I rx ry h
  obtain ⟨φ, G, μ, v', u', k, sb, r, rv, ru, hk, q⟩ := h
  exact cmp_ok hK hu I r sb hk rv ru rx ry q
theorem last_of {o1 o2 : CmpOp} (hm : notSet c = true) : lastMarks [o1, o2] [b, c] = false := by
  show behindInMarks o2 c = false
  exact noSet_of hm
theorem chain_read {σ : L2.St} {H : Hp} {Q : VK} {o1 o2 : CmpOp} (h : tE g T W md (.cmp2 o1 o2 A B C) σ H Q) : tChain (rCmp g o1) (rCmp g o2) (tE g T W md A) (tE g T W md B) (tE g T W md C) σ H Q := by
  obtain ⟨φ, G, μ, σm, sb, r, e, h⟩ := h
  simp only [evE] at h
  refine ⟨φ, G, μ, σm, sb, r, e, h.bind.imp fun v μ1 φ1 G1 H1 e1 r1 k w hw => ⟨φ1, G1, μ1, σm, e1.sub, r1, e.ext e1, k.bind.imp fun u μ2 φ2 G2 H2 e2 r2 k w' hw' => ?_⟩⟩
  obtain ⟨b', hb', q⟩ := Good.opt k.bind e2.sub r2
  refine ⟨φ2, G2, μ2, v, u, b', e2.sub, r2, hw.ext e2, hw', hb', b', rfl, ?_⟩
  cases b' with
  | false =>
    rw [if_neg Bool.false_ne_true] at q ⊢
    exact q.here e2.sub r2 _ (by simp only [RV])
  | true =>
    rw [if_pos rfl] at q ⊢
    refine ⟨φ2, G2, μ2, σm, e2.sub, r2, (e.ext e1).ext e2, q.bind.imp fun z μ3 φ3 G3 H3 e3 r3 k w2 hw2 => ?_⟩
    obtain ⟨b2, hb2, q2⟩ := Good.opt k.bind e3.sub r3
    exact ⟨φ3, G3, μ3, u, z, b2, e3.sub, r3, hw'.ext e3, hw2, hb2, q2.here e3.sub r3 _ (by simp only [RV])⟩
theorem se_cmp2 {o1 o2 : CmpOp} (hK : g.K = X.K) (hu : X.A.units + 64 < cLine) (hm : notSet c = true) (ha : PE X a (tE g T W md A)) (hb : PE X b (tE g T W md B)) (hc : PE X c (tE g T W md C)) :
    PE X (.Compare a [o1, o2] [b, c] pos) (tE g T W md (.cmp2 o1 o2 A B C)) :=
  ⟨fun pins s σ H Q I h => (pe_chain (op_cmp hK hu) (op_cmp hK hu) ha hb hc (last_of hm)).run pins s σ H Q I (chain_read h)⟩
/-- what a comparison hands on is a bool -/
theorem cmp_bool {σ : L2.St} {H : Hp} {Q : Bool → Hp → Prop} (hA : ∀ σ μ v μ', evE T A σ μ = .ok v μ' → ∃ b, v = .bl b) (h : tT g T W md A σ H Q) : tE g T W md A σ H fun x H1 => ∃ k, x = .bl k ∧ Q k H1 := by
  obtain ⟨φ, G, μ, σm, s, r, e, h⟩ := h
  refine ⟨φ, G, μ, σm, s, r, e, ?_⟩
  cases e0 : evE T A σm μ with
  | ok v μ1 =>
    obtain ⟨b, rfl⟩ := hA _ _ _ _ e0
    rw [e0] at h
    intro φ1 G1 H1 e1 r1 w hw
    simp only [RV] at hw
    exact ⟨b, hw, h φ1 G1 H1 e1 r1⟩
  | exc x μ1 => rw [e0] at h; exact h
  | no => rw [e0] at h; exact h
theorem cmp_is {op : CmpOp} : ∀ (σ : Env) μ v μ', evE T (.cmp op A B) σ μ = .ok v μ' → ∃ b, v = .bl b := by
  intro σ μ v μ' h
  simp only [evE] at h
  cases e1 : evE T A σ μ with
  | ok x μ1 =>
    rw [e1] at h
    simp only [R.bind] at h
    cases e2 : evE T B σ μ1 with
    | ok y μ2 =>
      rw [e2] at h
      simp only at h
      cases e3 : cmpM μ2 op x y with
      | none => rw [e3] at h; cases h
      | some k => rw [e3] at h; simp only [R.opt, R.ok.injEq] at h; exact ⟨k, h.1.symm⟩
    | exc x' μ2 => rw [e2] at h; cases h
    | no => rw [e2] at h; cases h
  | exc x' μ1 => rw [e1] at h; cases h
  | no => rw [e1] at h; cases h
theorem cmp2_is {o1 o2 : CmpOp} : ∀ (σ : Env) μ v μ', evE T (.cmp2 o1 o2 A B C) σ μ = .ok v μ' → ∃ b, v = .bl b := by
  intro σ μ v μ' h
  simp only [evE] at h
  cases e1 : evE T A σ μ with
  | ok x μ1 =>
    rw [e1] at h
    simp only [R.bind] at h
    cases e2 : evE T B σ μ1 with
    | ok y μ2 =>
      rw [e2] at h
      simp only at h
      cases e3 : cmpM μ2 o1 x y with
      | none => rw [e3] at h; cases h
      | some k =>
        rw [e3] at h
        simp only [R.opt] at h
        cases k with
        | false => simp only [R.ok.injEq, Bool.false_eq_true, if_false] at h; exact ⟨false, h.1.symm⟩
        | true =>
          simp only [if_true] at h
          cases e4 : evE T C σ μ2 with
          | ok z μ3 =>
            rw [e4] at h
            simp only at h
            cases e5 : cmpM μ3 o2 y z with
            | none => rw [e5] at h; cases h
            | some k => rw [e5] at h; simp only [R.opt, R.ok.injEq] at h; exact ⟨k, h.1.symm⟩
          | exc x' μ3 => rw [e4] at h; cases h
          | no => rw [e4] at h; cases h
    | exc x' μ2 => rw [e2] at h; cases h
    | no => rw [e2] at h; cases h
  | exc x' μ1 => rw [e1] at h; cases h
  | no => rw [e1] at h; cases h
/-- one comparison read as the operator's rule -/
theorem cmp_read {σ : L2.St} {H : Hp} {Q : VK} {op : CmpOp} (h : tE g T W md (.cmp op A B) σ H Q) : tOp (rCmp g op) (tE g T W md A) (tE g T W md B) σ H Q := by
  obtain ⟨φ, G, μ, σm, sb, r, e, h⟩ := h
  simp only [evE] at h
  refine ⟨φ, G, μ, σm, sb, r, e, h.bind.imp fun v μ1 φ1 G1 H1 e1 r1 k w hw => ⟨φ1, G1, μ1, σm, e1.sub, r1, e.ext e1, k.bind.imp fun u μ2 φ2 G2 H2 e2 r2 k w' hw' => ?_⟩⟩
  obtain ⟨b', hb', q⟩ := Good.opt k.bind e2.sub r2
  exact ⟨φ2, G2, μ2, v, u, b', e2.sub, r2, hw.ext e2, hw', hb', q.here e2.sub r2 _ (by simp only [RV])⟩
theorem st_cmp {op : CmpOp} (hK : g.K = X.K) (hu : X.A.units + 64 < cLine) (hm : notSet b = true) (ha : PE X a (tE g T W md A)) (hb : PE X b (tE g T W md B)) : PT X (.Compare a [op] [b] pos) (tT g T W md (.cmp op A B)) :=
  ⟨fun pins s σ H Q I h => (pt_cmpR (op_cmp hK hu) ha hb (noSet_of hm)).run pins s σ H Q I (cmp_read (cmp_bool cmp_is h))⟩
theorem st_cmp2 {o1 o2 : CmpOp} (hK : g.K = X.K) (hu : X.A.units + 64 < cLine) (hm : notSet c = true) (ha : PE X a (tE g T W md A)) (hb : PE X b (tE g T W md B)) (hc : PE X c (tE g T W md C)) :
    PT X (.Compare a [o1, o2] [b, c] pos) (tT g T W md (.cmp2 o1 o2 A B C)) :=
  ⟨fun pins s σ H Q I h => (pt_chain (op_cmp hK hu) (op_cmp hK hu) ha hb hc (last_of hm)).run pins s σ H Q I (chain_read (cmp_bool cmp2_is h))⟩
/-! ### and, or, if -/
theorem se_and {rest : List PySem.Expr} (hK : g.K = X.K) (ha : PE X a (tE g T W md A)) (hb : PE X (.BoolOp .And (b :: rest) pos) (tE g T W md B)) : PE X (.BoolOp .And (a :: b :: rest) pos) (tE g T W md (.and A B)) := by
  refine ⟨fun pins s σ H Q I h => (pe_andT ha hb).run pins s σ H Q I ?_⟩
  obtain ⟨φ, G, μ, σm, sb, r, e, h⟩ := h
  simp only [evE] at h
  refine ⟨φ, G, μ, σm, sb, r, e, h.bind.imp fun v μ1 φ1 G1 H1 e1 r1 k w hw => ?_⟩
  obtain ⟨b, hb, q⟩ := Good.opt k.bind e1.sub r1
  rw [← hK]
  refine ⟨b, tru_of hb hw r1 e1.sub, ?_⟩
  cases b with
  | true =>
    rw [if_pos rfl] at q ⊢
    exact ⟨φ1, G1, μ1, σm, e1.sub, r1, e.ext e1, q⟩
  | false =>
    rw [if_neg Bool.false_ne_true] at q ⊢
    exact q.here e1.sub r1 w hw
theorem se_or {rest : List PySem.Expr} (hK : g.K = X.K) (ha : PE X a (tE g T W md A)) (hb : PE X (.BoolOp .Or (b :: rest) pos) (tE g T W md B)) : PE X (.BoolOp .Or (a :: b :: rest) pos) (tE g T W md (.or A B)) := by
  refine ⟨fun pins s σ H Q I h => (pe_orT ha hb).run pins s σ H Q I ?_⟩
  obtain ⟨φ, G, μ, σm, sb, r, e, h⟩ := h
  simp only [evE] at h
  refine ⟨φ, G, μ, σm, sb, r, e, h.bind.imp fun v μ1 φ1 G1 H1 e1 r1 k w hw => ?_⟩
  obtain ⟨b, hb, q⟩ := Good.opt k.bind e1.sub r1
  rw [← hK]
  refine ⟨b, tru_of hb hw r1 e1.sub, ?_⟩
  cases b with
  | false =>
    rw [if_neg Bool.false_ne_true] at q ⊢
    exact ⟨φ1, G1, μ1, σm, e1.sub, r1, e.ext e1, q⟩
  | true =>
    rw [if_pos rfl] at q ⊢
    exact q.here e1.sub r1 w hw
/-- a test read on: the first part's truth, then the rest -/
theorem tT_and {σ : L2.St} {H : Hp} {Q : Bool → Hp → Prop} (h : tT g T W md (.and A B) σ H Q) : tAnd (tT g T W md A) (tT g T W md B) σ H Q := by
  obtain ⟨φ, G, μ, σm, sb, r, e, h⟩ := h
  refine ⟨φ, G, μ, σm, sb, r, e, ?_⟩
  simp only [evE] at h
  cases e0 : evE T A σm μ with
  | ok v μ1 =>
    rw [e0] at h
    simp only [R.bind] at h ⊢
    unfold truR at h ⊢
    cases e1 : truM μ1 v with
    | none => rw [e1] at h; exact h.elim
    | some b =>
      rw [e1] at h
      intro φ1 G1 H1 x1 r1
      cases b with
      | true => exact ⟨φ1, G1, μ1, σm, x1.sub, r1, e.ext x1, Good.ext (r := (evE T B σm μ1).bind truR) h x1⟩
      | false =>
        simp only [R.opt, Bool.false_eq_true, if_false, e1] at h
        exact h φ1 G1 H1 x1 r1
  | exc x μ1 => rw [e0] at h; exact h
  | no => rw [e0] at h; exact h
theorem tT_or {σ : L2.St} {H : Hp} {Q : Bool → Hp → Prop} (h : tT g T W md (.or A B) σ H Q) : tOr (tT g T W md A) (tT g T W md B) σ H Q := by
  obtain ⟨φ, G, μ, σm, sb, r, e, h⟩ := h
  refine ⟨φ, G, μ, σm, sb, r, e, ?_⟩
  simp only [evE] at h
  cases e0 : evE T A σm μ with
  | ok v μ1 =>
    rw [e0] at h
    simp only [R.bind] at h ⊢
    unfold truR at h ⊢
    cases e1 : truM μ1 v with
    | none => rw [e1] at h; exact h.elim
    | some b =>
      rw [e1] at h
      intro φ1 G1 H1 x1 r1
      cases b with
      | false => exact ⟨φ1, G1, μ1, σm, x1.sub, r1, e.ext x1, Good.ext (r := (evE T B σm μ1).bind truR) h x1⟩
      | true =>
        simp only [R.opt, if_true, e1] at h
        exact h φ1 G1 H1 x1 r1
  | exc x μ1 => rw [e0] at h; exact h
  | no => rw [e0] at h; exact h
theorem sw_and {rest : List PySem.Expr} (ha : PT X a (tT g T W md A)) (hb : PW X (.BoolOp .And (b :: rest) pos) (tT g T W md B)) : PW X (.BoolOp .And (a :: b :: rest) pos) (tT g T W md (.and A B)) :=
  ⟨fun wh pins s σ H Q I h => (pw_and ha hb).run wh pins s σ H Q I (tT_and h)⟩
theorem sw_or {rest : List PySem.Expr} (ha : PT X a (tT g T W md A)) (hb : PW X (.BoolOp .Or (b :: rest) pos) (tT g T W md B)) : PW X (.BoolOp .Or (a :: b :: rest) pos) (tT g T W md (.or A B)) :=
  ⟨fun wh pins s σ H Q I h => (pw_or ha hb).run wh pins s σ H Q I (tT_or h)⟩
theorem se_ite (hc : PT X c (tT g T W md C)) (ha : PE X a (tE g T W md A)) (hb : PE X b (tE g T W md B)) : PE X (.IfExp c a b pos) (tE g T W md (.ite C A B)) := by
  refine ⟨fun pins s σ H Q I h => (pe_ifExp hc ha hb).run pins s σ H Q I ?_⟩
  obtain ⟨φ, G, μ, σm, sb, r, e, h⟩ := h
  refine ⟨φ, G, μ, σm, sb, r, e, ?_⟩
  simp only [evE] at h
  cases e0 : evE T C σm μ with
  | ok v μ1 =>
    rw [e0] at h
    simp only [R.bind] at h ⊢
    unfold truR at h ⊢
    cases e1 : truM μ1 v with
    | none => rw [e1] at h; exact h.elim
    | some b =>
      rw [e1] at h
      intro φ1 G1 H1 x1 r1
      cases b with
      | false => exact ⟨φ1, G1, μ1, σm, x1.sub, r1, e.ext x1, Good.ext (r := evE T B σm μ1) h x1⟩
      | true => exact ⟨φ1, G1, μ1, σm, x1.sub, r1, e.ext x1, Good.ext (r := evE T A σm μ1) h x1⟩
  | exc x μ1 => rw [e0] at h; exact h
  | no => rw [e0] at h; exact h
/-! ### rows of expressions -/
theorem sa_nil : PA X [] (tEs g T W md []) := by
  refine ⟨fun pos pins s σ H Q I h => pa_nil.run pos pins s σ H Q I ?_⟩
  obtain ⟨φ, G, μ, σm, sb, r, e, h⟩ := h
  simp only [evEs] at h
  exact h.here sb r _ rvs_nil
theorem sa_cons {es : List PySem.Expr} {As : List E} (hp : plain a = true) (ha : PE X a (tE g T W md A)) (hr : PA X es (tEs g T W md As)) : PA X (a :: es) (tEs g T W md (A :: As)) := by
  refine ⟨fun pos pins s σ H Q I h => (pa_cons ha hr (star_cons hp)).run pos pins s σ H Q I ?_⟩
  obtain ⟨φ, G, μ, σm, sb, r, e, h⟩ := h
  simp only [evEs] at h
  refine ⟨φ, G, μ, σm, sb, r, e, h.bind.imp fun v μ1 φ1 G1 H1 e1 r1 k w hw => ⟨φ1, G1, μ1, σm, e1.sub, r1, e.ext e1, k.bind.imp fun u μ2 φ2 G2 H2 e2 r2 k ws hws => ?_⟩⟩
  exact k.here e2.sub r2 _ (rvs_cons (hw.ext e2) hws)
theorem se_tup {es : List PySem.Expr} {As : List E} {j : Nat} (h : PA X es (tEs g T W md As)) : PE X (.Tuple es j pos) (tE g T W md (.tup As)) := by
  refine ⟨fun pins s σ H Q I hh => (pe_tup h).run pins s σ H Q I ?_⟩
  obtain ⟨φ, G, μ, σm, sb, r, e, h⟩ := hh
  simp only [evE] at h
  refine ⟨φ, G, μ, σm, sb, r, e, h.bind.imp fun v μ1 φ1 G1 H1 e1 r1 k ws hws => ?_⟩
  obtain ⟨hz, hn⟩ := newT_ok k r1 e1.sub hws
  exact ⟨by rw [← hws.len]; exact hz, hn⟩
theorem se_lst {es : List PySem.Expr} {As : List E} (h : PA X es (tEs g T W md As)) : PE X (.List es pos) (tE g T W md (.lst As)) := by
  refine ⟨fun pins s σ H Q I hh => (pe_lst h).run pins s σ H Q I ?_⟩
  obtain ⟨φ, G, μ, σm, sb, r, e, h⟩ := hh
  simp only [evE] at h
  refine ⟨φ, G, μ, σm, sb, r, e, h.bind.imp fun v μ1 φ1 G1 H1 e1 r1 k ws hws => ?_⟩
  obtain ⟨hz, hn⟩ := newL_ok k r1 e1.sub hws
  exact ⟨by rw [← hws.len]; exact hz, hn⟩
/-! ### subscripts and slices -/
def rIdx (g : Glob) : R2 := fun x y H Q => ∃ φ G μ v u z, Sub G H ∧ Rel g φ G μ ∧ RV g φ G v x ∧ RV g φ G u y ∧ idxM μ v u = some z ∧ ∀ w, RV g φ G z w → Q w H
theorem ix_ok (hK : g.K = X.K) : IxR X (rIdx g) := by
  intro value slice pins s σ H x y v u Q I rx ry h hs
  obtain ⟨φ, G, μ, v', u', z, sb, r, rv, ru, hz, q⟩ := h
  exact idx_ok hK I r sb hz rv ru rx ry hs q
theorem se_idx (hK : g.K = X.K) (hm : notSlice b = true) (ha : PE X a (tE g T W md A)) (hb : PE X b (tE g T W md B)) : PE X (.Subscript a b pos) (tE g T W md (.idx A B)) := by
  refine ⟨fun pins s σ H Q I h => (pe_ix (ix_ok hK) ha hb (plainIx_of hm)).run pins s σ H Q I ?_⟩
  obtain ⟨φ, G, μ, σm, sb, r, e, h⟩ := h
  simp only [evE] at h
  refine ⟨φ, G, μ, σm, sb, r, e, h.bind.imp fun v μ1 φ1 G1 H1 e1 r1 k w hw => ⟨φ1, G1, μ1, σm, e1.sub, r1, e.ext e1, k.bind.imp fun u μ2 φ2 G2 H2 e2 r2 k w' hw' => ?_⟩⟩
  obtain ⟨z, hz, q⟩ := Good.opt k e2.sub r2
  exact ⟨φ2, G2, μ2, v, u, z, e2.sub, r2, hw.ext e2, hw', hz, q⟩
/-- a part of a slice -/
def tP (g : Glob) (T : Tab) (W : WX) (md : Md) (A : E) : TO := fun σ H Q => ∃ φ G μ σm, Sub G H ∧ Rel g φ G μ ∧ RSt g φ G H md σm σ ∧ Good g W σ φ G H (partR A.isNon (evE T A σm μ) μ) fun o _ _ _ H1 => Q o H1
theorem po_no : PO X none (tP g T W md .non) := by
  refine ⟨fun pins s σ H Q I h => po_none.run pins s σ H Q I ?_⟩
  obtain ⟨φ, G, μ, σm, sb, r, e, h⟩ := h
  exact Good.here (a := none) (μ := μ) h sb r
theorem po_so (hA : A.isNon = false) (ha : PE X a (tE g T W md A)) : PO X (some a) (tP g T W md A) := by
  refine ⟨fun pins s σ H Q I h => (po_some ha).run pins s σ H Q I ?_⟩
  obtain ⟨φ, G, μ, σm, sb, r, e, h⟩ := h
  rw [hA] at h
  have h : Good g W σ φ G H ((evE T A σm μ).bind _) _ := h
  refine ⟨φ, G, μ, σm, sb, r, e, h.bind.imp fun v μ1 φ1 G1 H1 e1 r1 k w hw => ?_⟩
  split at k
  · simp only [RV] at hw
    exact ⟨_, hw, k.here e1.sub r1⟩
  · exact k.elim
theorem se_slc {lo hi : Option PySem.Expr} {L Hh : E} {p2 : Pos} (hK : g.K = X.K) (ha : PE X a (tE g T W md A)) (hl : PO X lo (tP g T W md L)) (hh : PO X hi (tP g T W md Hh)) : PE X (.Subscript a (.Slice lo hi none p2) pos) (tE g T W md (.slc A L Hh)) := by
  refine ⟨fun pins s σ H Q I h => (pe_slice (sl_ok hK) ha hl hh).run pins s σ H Q I ?_⟩
  obtain ⟨φ, G, μ, σm, sb, r, e, h⟩ := h
  simp only [evE] at h
  refine ⟨φ, G, μ, σm, sb, r, e, h.bind.imp fun v μ1 φ1 G1 H1 e1 r1 k w hw => ⟨φ1, G1, μ1, σm, e1.sub, r1, e.ext e1, k.bind.imp fun l μ2 φ2 G2 H2 e2 r2 k =>
    ⟨φ2, G2, μ2, σm, e2.sub, r2, (e.ext e1).ext e2, k.bind.imp fun u μ3 φ3 G3 H3 e3 r3 k => ?_⟩⟩⟩
  exact ⟨φ3, G3, μ3, v, e3.sub, r3, (hw.ext e2).ext e3, k.noX fun x' μ' => slc_noX x' μ'⟩
end
end Mch

/-! ## Operators on own objects, the other side a built-in value -/
namespace Mch
open PySem PySem.W PySem.Calls PyProof.Rows
section
variable {prog : Program} {w : World} {A : Around} {E : Value → Shared → Prop} {s : Shared} {K : Frag} {x C L f : Addr} {h₀ : Heap} {m : Str → Option Value} {ox : Obj} {od : Option Obj}
/-- what is asked of a built-in type at an operator -/
structure OtherT (tb : String) (nm : String) : Prop where
  fl : fillsNumberSlot (.type tb) nm = pure false ∨ (fillsNumberSlot (.type tb) nm = pure true ∧ ∃ o, typeLookup (.type tb) (dunderR nm) = pure o)
theorem nslot_K {M : Model} {h : Heap} {nm : String} (X : K.In h) (hs : findIn K (.ref C) (PySem.dunder nm) = some (some (.ref f))) (hr : findIn K (.ref C) (PySem.dunderR nm) = some none) : Looks M h (numberSlotInPython (.ref C) nm) true := by
  intro A Q E s k q
  unfold numberSlotInPython
  refine wpAny_bind (looks_findIn X hs A _ E s k ?_)
  refine wpAny_bind (wpAny_pure ?_)
  refine wpAny_bind (looks_findIn X hr A _ E s k ?_)
  refine wpAny_bind (wpAny_pure ?_)
  exact wpAny_pure q
theorem bino1_K {nm : String} {b : Value} {tb : String} {Q : Value → Shared → Prop} (X : K.In s.heap) (I : InstAt s.heap x ox C od) (hb : Looks (model prog w) s.heap (typeOf b) (.type tb)) (ht : OtherT tb nm) (hc : selfFirst K C = true) (hsub : subIn K (.type tb) (.ref C) = some false)
    (hs : findIn K (.ref C) (PySem.dunder nm) = some (some (.ref f))) (hr : findIn K (.ref C) (PySem.dunderR nm) = some none) (hf : isFn K (.ref f) = true)
    (h : wpAny (model prog w) A (call (.ref f) [.ref x, b]) (PySem.W.CmpBack Q) E s) : wpAny (model prog w) A (binaryOp1 nm (.ref x) b) (fun v s' => ∃ u, v = some u ∧ Q u s') E s := by
  obtain ⟨cd, hcd, hm⟩ := any_some hc
  obtain ⟨rest, hm⟩ : ∃ rest, cd.mro = .ref C :: rest := by
    cases q : cd.mro with
    | nil => rw [q] at hm; cases hm
    | cons a r => rw [q] at hm; exact ⟨r, by rw [List.head?_cons] at hm; cases (beq_iff_eq.mp hm); rfl⟩
  have fin : wpAny (model prog w) A (tryMethod (.ref x) (dunder nm) b) (fun v s' => ∃ u, v = some u ∧ Q u s') E s := by
    unfold tryMethod
    refine wpAny_bind (special_fn X I hs (beq_iff_eq.mp hf) (wpAny_mono h (fun v s' hv => ?_) fun _ _ e => e))
    cases v <;> first | exact hv.elim | exact wpAny_pure ⟨_, rfl, hv⟩
  unfold binaryOp1
  refine wpAny_bind (I.type.here (wpAny_bind (hb.here (wpAny_bind ((fills_K X hcd hm hs).here ?_)))))
  have hne : ((Value.ref C) == Value.type tb) = false := rfl
  simp only [hne, Bool.false_eq_true, if_false]
  rcases ht.fl with e1 | ⟨e1, o, e2⟩
  · rw [e1]
    refine wpAny_bind (wpAny_pure ?_)
    simp only [Bool.and_false, Bool.false_eq_true, if_false, Bool.false_and, if_true]
    refine wpAny_bind (wpAny_pure ?_)
    simp only [Bool.false_eq_true, if_false]
    refine wpAny_bind (wpAny_mono fin (fun v s' hv => ?_) fun _ _ e => e)
    obtain ⟨u, rfl, q⟩ := hv
    exact wpAny_pure ⟨u, rfl, q⟩
  · rw [e1]
    refine wpAny_bind (wpAny_pure ?_)
    simp only [Bool.and_self, if_true, Bool.true_and]
    refine wpAny_bind ((looks_subIn X hsub).here ?_)
    simp only [Bool.false_eq_true, if_false, Bool.not_false, if_true]
    have nt : numberSlotInPython (.type tb) nm = pure false := rfl
    refine wpAny_bind ((nslot_K X hs hr).here ?_)
    rw [nt, e2]
    simp only [if_true]
    refine wpAny_bind (wpAny_pure ?_)
    simp only [Bool.not_false, if_true]
    refine wpAny_bind (wpAny_pure ?_)
    refine wpAny_bind (wpAny_mono fin (fun v s' hv => ?_) fun _ _ e => e)
    obtain ⟨u, rfl, q⟩ := hv
    exact wpAny_pure ⟨u, rfl, q⟩
theorem bino_K {op : Operator} {b : Value} {tb : String} {Q : Value → Shared → Prop} (F : Fr h₀ L s.heap m) (X₀ : K.In h₀) (I : InstAt s.heap x ox C od) (hb : Looks (model prog w) s.heap (typeOf b) (.type tb)) (ht : OtherT tb op.info.2) (hc : selfFirst K C = true) (hsub : subIn K (.type tb) (.ref C) = some false)
    (hs : findIn K (.ref C) (PySem.dunder op.info.2) = some (some (.ref f))) (hr : findIn K (.ref C) (PySem.dunderR op.info.2) = some none) (hf : isFn K (.ref f) = true)
    (h : wpAny (model prog w) A (call (.ref f) [.ref x, b]) (PySem.W.CmpBack Q) E s) : wpAny (model prog w) A (binaryOp op (.ref x) b) Q E s := by
  have X := X₀.keeps F.keep
  unfold binaryOp
  refine wpAny_holding (wpAny_bind (wpAny_mono (bino1_K X I hb ht hc hsub hs hr hf h) (fun v s' hv => ?_) fun _ _ e => e))
  obtain ⟨u, rfl, q⟩ := hv
  exact wpAny_pure q
theorem other_ok : ∀ tb ∈ ["NoneType", "bool", "int", "str", "tuple", "list"], ∀ op ∈ [Operator.Add, .Sub, .Mult], OtherT tb op.info.2 := by
  intro tb htb op hop
  simp only [List.mem_cons, List.not_mem_nil, or_false] at htb hop
  rcases htb with rfl | rfl | rfl | rfl | rfl | rfl <;> rcases hop with rfl | rfl | rfl
  · exact ⟨.inl (by kernel_rfl)⟩
  · exact ⟨.inl (by kernel_rfl)⟩
  · exact ⟨.inl (by kernel_rfl)⟩
  · exact ⟨.inr ⟨by kernel_rfl, some (.builtin "int.__radd__"), by kernel_rfl⟩⟩
  · exact ⟨.inr ⟨by kernel_rfl, some (.builtin "int.__rsub__"), by kernel_rfl⟩⟩
  · exact ⟨.inr ⟨by kernel_rfl, some (.builtin "int.__rmul__"), by kernel_rfl⟩⟩
  · exact ⟨.inr ⟨by kernel_rfl, some (.builtin "int.__radd__"), by kernel_rfl⟩⟩
  · exact ⟨.inr ⟨by kernel_rfl, some (.builtin "int.__rsub__"), by kernel_rfl⟩⟩
  · exact ⟨.inr ⟨by kernel_rfl, some (.builtin "int.__rmul__"), by kernel_rfl⟩⟩
  · exact ⟨.inl (by kernel_rfl)⟩
  · exact ⟨.inl (by kernel_rfl)⟩
  · exact ⟨.inl (by kernel_rfl)⟩
  · exact ⟨.inl (by kernel_rfl)⟩
  · exact ⟨.inl (by kernel_rfl)⟩
  · exact ⟨.inl (by kernel_rfl)⟩
  · exact ⟨.inl (by kernel_rfl)⟩
  · exact ⟨.inl (by kernel_rfl)⟩
  · exact ⟨.inl (by kernel_rfl)⟩
end
end Mch

/-! ## x != y of own objects, by __eq__ -/
namespace Mch
open PySem PySem.W PySem.Calls PyProof.Rows
section
variable {prog : Program} {w : World} {A : Around} {E : Value → Shared → Prop} {s : Shared} {K : Frag} {x C L f : Addr} {h₀ : Heap} {m : Str → Option Value} {ox : Obj} {od : Option Obj} {name : Str} {b tb : Value}
theorem ifBound_blt {M : Model} {id : String} {args : List Value} {Q : Option Value → Shared → Prop} (X : K.In s.heap) (I : InstAt s.heap x ox C od) (hs : findIn K (.ref C) name = some (some (.builtin id)))
    (hb : ∀ self, bindSpecial (.builtin id) self = pure (.builtin id, [self])) (h : wpAny M A (call (.builtin id) (.ref x :: args)) (fun v => Q (some v)) E s) : wpAny M A (callSpecialIfBound? (.ref x) name args) Q E s := by
  simp only [callSpecialIfBound?, bindSpecialIfBound?]
  refine wpAny_holding (wpAny_bind (wpAny_bind (wpAny_bind (I.type.here ((looks_findIn X hs).here ?_)))))
  refine wpAny_bind (wpAny_askSetting (wpAny_ite ?_))
  have fin : wpAny M A (call (.builtin id) ([.ref x] ++ args) >>= fun v => pure (some v)) Q E s := wpAny_bind (wpAny_mono h (fun v s' h' => wpAny_pure h') fun _ _ h' => h')
  split
  · exact wpAny_bind ((Looks.of_pure (hb _)).here (wpAny_pure (by exact fin)))
  · exact wpAny_tryCatch (wpAny_bind ((Looks.of_pure (hb _)).here (wpAny_pure (by exact fin))))
theorem one_ne {Q : Option Value → Shared → Prop} (hu : A.in1.units < cLine) (X : K.In s.heap) (I : InstAt s.heap x ox C od) (hne : findIn K (.ref C) "__ne__" = some (some (.builtin "object.__ne__"))) (hm : mroIn K C (.type "object") = some true)
    (hs : findIn K (.ref C) "__eq__" = some (some (.ref f))) (hf : isFn K (.ref f) = true) (h : wpAny (model prog w) A.in1 (call (.ref f) [.ref x, b]) (fun v s' => ∃ k, v = .bool k ∧ Q (some (.bool (!k))) s') E s) :
    wpAny (model prog w) A (tryCompare (.ref x) "__ne__" b) Q E s := by
  unfold tryCompare
  refine wpAny_bind (ifBound_blt X I hne F.slot_object_ne.bind ?_)
  refine wpAny_call (codeAny_call_builtin F.slot_object_ne.plain F.cmpEntry_ne (check_slot (i := "object.__ne__") (owner := "object") (n := "__ne__") F.cmpKind_ne F.cmpSplit_ne (I.type.andThen (looks_mroIn X hm)) (F.cmpArgs_ne _ _) ?_))
  unfold Builtin.«object.__ne__»
  refine wpAny_bind (wpAny_pure ?_)
  refine wpAny_bind (m := cRoomFor _ _) (wpAny_cRoomFor hu ?_)
  refine wpAny_bind (m := callSpecialIfBound? (.ref x) (Str.ofString "__eq__") _) (ifBound_K X I hs hf (wpAny_mono h (fun r s' hq => ?_) fun _ _ y => y))
  obtain ⟨k, rfl, hq⟩ := hq
  refine wpAny_bind (m := truthy (.bool _)) (wpAny_truthy_bool ?_)
  exact wpAny_pure (wpAny_pure hq)
theorem ne_K {Q : Value → Shared → Prop} (hu : A.units + 1 < cLine) (hu1 : A.in1.units < cLine) (F : Fr h₀ L s.heap m) (X₀ : K.In h₀) (I : InstAt s.heap x ox C od) (hb : Looks (model prog w) s.heap (typeOf b) tb) (hn : notFirst K C tb = true)
    (hne : findIn K (.ref C) "__ne__" = some (some (.builtin "object.__ne__"))) (hm : mroIn K C (.type "object") = some true) (hs : findIn K (.ref C) "__eq__" = some (some (.ref f))) (hf : isFn K (.ref f) = true)
    (h : wpAny (model prog w) A.in1 (call (.ref f) [.ref x, b]) (fun v s' => ∃ k, v = .bool k ∧ Q (.bool (!k)) s') E s) : wpAny (model prog w) A (richCompare .NotEq (.ref x) b) Q E s := by
  have X := X₀.keeps F.keep
  have one : wpAny (model prog w) A (tryCompare (.ref x) "__ne__" b) (fun r s' => ∃ v, r = some v ∧ Q v s') E s :=
    one_ne hu1 X I hne hm hs hf (wpAny_mono h (fun v s' hv => by
      obtain ⟨k, rfl, q⟩ := hv
      exact ⟨k, rfl, _, rfl, q⟩) fun _ _ e => e)
  unfold richCompare
  simp only [oneThing_ref]
  refine wpAny_holding (wpAny_bind (wpAny_cRoomFor (by omega) ?_))
  refine wpAny_bind (I.type.here (wpAny_bind (hb.here ?_)))
  split
  · rename_i q
    have e : subIn K tb (.ref C) = some false := by
      rcases Bool.or_eq_true_iff.mp hn with e | e
      · rw [beq_iff_eq.mp e] at q; simp at q
      · exact beq_iff_eq.mp e
    refine wpAny_bind ((looks_subIn X e).here ?_)
    simp only [Bool.false_eq_true, if_false]
    refine wpAny_bind (wpAny_mono one (fun r s' z => ?_) fun _ _ e => e)
    obtain ⟨v, rfl, hq⟩ := z
    exact wpAny_pure hq
  · refine wpAny_bind (wpAny_pure ?_)
    simp only [Bool.false_eq_true, if_false]
    refine wpAny_bind (wpAny_mono one (fun r s' z => ?_) fun _ _ e => e)
    obtain ⟨v, rfl, hq⟩ := z
    exact wpAny_pure hq
end
end Mch

/-! ## Calls, built-ins, methods, fields -/
namespace Mch
open PySem PySem.Spec PyProof.Rows L2
theorem evEs_len {T : Tab} : ∀ {As : List E} {σ : Env} {μ : Mem} {xs : List MV} {μ' : Mem}, evEs T As σ μ = .ok xs μ' → xs.length = As.length
  | [], σ, μ, xs, μ', h => by
    simp only [evEs, R.ok.injEq] at h
    rw [← h.1]
    rfl
  | A :: As, σ, μ, xs, μ', h => by
    simp only [evEs] at h
    cases e1 : evE T A σ μ with
    | ok x μ1 =>
      rw [e1] at h
      simp only [R.bind] at h
      cases e2 : evEs T As σ μ1 with
      | ok ys μ2 =>
        rw [e2] at h
        simp only [R.ok.injEq] at h
        rw [← h.1, List.length_cons, List.length_cons, evEs_len e2]
      | exc x' μ2 => rw [e2] at h; cases h
      | no => rw [e2] at h; cases h
    | exc x' μ1 => rw [e1] at h; cases h
    | no => rw [e1] at h; cases h
/-- what a def of the machine promises -/
def spM (g : Glob) (T : Tab) (f : Nat) : Sp := fun vs H Q Ex => ∃ φ G μ xs D, Sub G H ∧ Rel g φ G μ ∧ RVs g φ G xs vs ∧ T.P.defs[f]? = some D ∧ xs.length = D.np ∧ Good g (fun cls dd _ H1 => Ex cls dd H1) [] φ G H (T.call f xs μ) (kE g Q)
/-- the def f of the machine is one of the text's -/
structure FunOk (g : Glob) (T : Tab) (P : Program) (w : World) (K : PySem.W.Frag) (mg : Str → Option Value) (base : Heap) (k : Nat) (name : Str) (f : Nat) : Prop where
  ex : ∃ (a : Addr) (fd : FuncData) (ps : List Str) (dvs : List V) (D : Def), g.fA f = some a ∧ mg name = some (.ref a) ∧ PySem.W.keepIn K (.ref a) = true ∧ T.P.defs[f]? = some D ∧ (∀ φ G, RVs g φ G D.dfl dvs) ∧
    (∀ m, m ≤ dvs.length → ∃ ds, Vals (dvs.drop m) ds ∧ Binds K fd ps ds) ∧ FnOk P w K mg base (L2.CX P w) k a fd ps (spM g T f) ∧ (∀ xs μ, (fullArgs D xs).length = D.np → T.call f xs μ = T.call f (fullArgs D xs) μ) ∧ (∀ xs μ, T.call f xs μ ≠ .no → (fullArgs D xs).length = D.np)
section
variable {X : Cx} {g : Glob} {T : Tab} {W : WX} {md : Md} {a b c : PySem.Expr} {A B C : E} {pos : Pos} {k : Nat}
theorem good_no {α : Type} {σ : L2.St} {φ : List Addr} {G H : Hp} {r : R α} {kk : KM α} (h : Good g W σ φ G H r kk) : r ≠ .no := by
  rintro rfl
  exact h
theorem good_W {α : Type} {σ : L2.St} {φ : List Addr} {G H : Hp} {r : R α} {kk : KM α} (h : Good g W σ φ G H r kk) : Good g (fun cls dd _ H1 => WE W σ cls dd H1) [] φ G H r kk := by
  cases r <;> exact h
/-- a call's arguments, then the def's promise -/
theorem call_read {f : Nat} {D : Def} {dvs : List V} {As : List E} {σ : L2.St} {H : Hp} {Q : VK} (hD : T.P.defs[f]? = some D) (hv : ∀ φ G, RVs g φ G D.dfl dvs) (hf : ∀ xs μ, (fullArgs D xs).length = D.np → T.call f xs μ = T.call f (fullArgs D xs) μ) (hn : ∀ xs μ, T.call f xs μ ≠ .no → (fullArgs D xs).length = D.np)
    (h : tE g T W md (.call f As) σ H Q) : tCallSD (spM g T f) (dvs.drop (D.dfl.length - (D.np - As.length))) (WE W) (tEs g T W md As) σ H Q := by
  obtain ⟨φ, G, μ, σm, sb, r, e, h⟩ := h
  simp only [evE] at h
  refine ⟨φ, G, μ, σm, sb, r, e, h.bind.imp2 fun xs μ1 φ1 G1 H1 e0 e1 r1 k vs hvs => ?_⟩
  have hl := evEs_len e0
  have hnp := hn _ _ (good_no k)
  refine ⟨φ1, G1, μ1, fullArgs D xs, D, e1.sub, r1, ?_, hD, hnp, ?_⟩
  · unfold fullArgs
    rw [hl]
    exact hvs.append ((hv φ1 G1).drop _)
  · rw [← hf _ _ hnp]
    exact good_W k
theorem tEs_nil {σ : L2.St} {H : Hp} {Q : List V → Hp → Prop} (h : tEs g T W md [] σ H Q) : Q [] H := by
  obtain ⟨φ, G, μ, σm, sb, r, e, h⟩ := h
  simp only [evEs] at h
  exact h.here sb r [] rvs_nil
theorem se_call {x : Str} {p : Pos} {f : Nat} {es : List PySem.Expr} {As : List E} (hF : FunOk g T X.prog X.w X.K X.mg X.base k x f) (hr : Room k X.A) (tk : Takes X W) (hg : Gl X x) (hdb : (x == ("__debug__" : Str)) = false) (hp : es.all plain = true) (hl : es.length = As.length) (ha : PA X es (tEs g T W md As)) :
    PE X (.Call (.Name x p) es [] pos) (tE g T W md (.call f As)) := by
  obtain ⟨a, fd, ps, dvs, D, h1, h2, h3, h4, h5, h6, h7, h8, h9⟩ := hF.ex
  have h5l : D.dfl.length = dvs.length := (h5 [] fun _ => none).len
  obtain ⟨ds, hd, hb⟩ := h6 (min (D.dfl.length - (D.np - As.length)) dvs.length) (Nat.min_le_right _ _)
  have em : dvs.drop (min (D.dfl.length - (D.np - As.length)) dvs.length) = dvs.drop (D.dfl.length - (D.np - As.length)) := by
    rw [Nat.min_eq_left]
    omega
  rw [em] at hd
  refine ⟨fun pins s σ H Q I h => ?_⟩
  have h := call_read h4 h5 h8 h9 h
  cases es with
  | nil =>
    refine wpAny_Call_Name_kw (ld_glob I hg h2 ?_ hdb)
    refine PySem.W.callWith_K0 I.kIn h3 ?_
    have e0 : As = [] := List.length_eq_zero_iff.mp hl.symm
    subst e0
    exact run_fnSD (us := []) (E := WE W) h7 hr hb hd (passAt tk σ) I .nil (tEs_nil h)
  | cons e es =>
    rw [List.all_cons, Bool.and_eq_true] at hp
    exact (pe_callSD h7 hr hg h2 h3 hb hd (fun σ => passAt tk σ) ha hdb (star_cons hp.1) (star_any hp.2)).run pins s σ H Q I h
/-- a call of the def that a name holds -/
theorem se_callv {x : Str} {p : Pos} {i : Nat} {es : List PySem.Expr} {As : List E} (hF : ∀ f a, g.fA f = some a → ∃ name, FunOk g T X.prog X.w X.K X.mg X.base k name f) (hr : Room k X.A) (tk : Takes X W) (hN : X.N[i]? = some x) (hv : Vis X.env.scope x) (hi : md.ex i = false)
    (hdb : (x == ("__debug__" : Str)) = false) (hcd : (x == ("__classdict__" : Str)) = false) (hp : es.all plain = true) (hl : es.length = As.length) (ha : PA X es (tEs g T W md As)) :
    PE X (.Call (.Name x p) es [] pos) (tE g T W md (.callv i As)) := by
  refine ⟨fun pins s σ H Q I h => ?_⟩
  obtain ⟨φ, G, μ, σm, sb, r, e, h⟩ := h
  simp only [evE] at h
  split at h
  · rename_i f hf
    obtain ⟨w, hw, rw'⟩ := e.env.2 i _ hf hi
    simp only [RV] at rw'
    obtain ⟨a, rfl, hfa⟩ := rw'
    obtain ⟨name, hO⟩ := hF f a hfa
    obtain ⟨a', fd, ps, dvs, D, h1, h2, h3, h4, h5, h6, h7, h8, h9⟩ := hO.ex
    rw [hfa] at h1
    cases h1
    have h5l : D.dfl.length = dvs.length := (h5 [] fun _ => none).len
    obtain ⟨ds, hd, hb⟩ := h6 (min (D.dfl.length - (D.np - As.length)) dvs.length) (Nat.min_le_right _ _)
    have em : dvs.drop (min (D.dfl.length - (D.np - As.length)) dvs.length) = dvs.drop (D.dfl.length - (D.np - As.length)) := by
      rw [Nat.min_eq_left]
      omega
    rw [em] at hd
    have h : tCallSD (spM g T f) (dvs.drop (D.dfl.length - (D.np - As.length))) (WE W) (tEs g T W md As) σ H Q :=
      call_read h4 h5 h8 h9 ⟨φ, G, μ, σm, sb, r, e, by simp only [evE]; exact h⟩
    refine wpAny_Call_Name_kw (thn ((pe_var (pos := p) hN hv hdb hcd).run pins s σ H (fun v H1 => v = .ref a ∧ H1 = H) I ⟨.ref a, hw, rfl, rfl⟩) fun u s1 ⟨v, H1, I1, r1, q1⟩ => ?_)
    obtain ⟨rfl, rfl⟩ := q1
    cases r1
    cases es with
    | nil =>
      have e0 : As = [] := List.length_eq_zero_iff.mp hl.symm
      subst e0
      refine PySem.W.callWith_K0 I1.kIn h3 ?_
      exact run_fnSD (us := []) (E := WE W) h7 hr hb hd (passAt tk σ) I1 .nil (tEs_nil h)
    | cons e0 es =>
      rw [List.all_cons, Bool.and_eq_true] at hp
      refine PySem.W.callWith_K (h₀ := X.base) I1.ok.mod.kin h3 (thn (ha.run pos pins s1 σ _ _ I1 h) fun us s2 ⟨vs, H2, I2, r, q⟩ => ⟨I2.kIn, ?_⟩) (star_cons hp.1) (star_any hp.2)
      exact run_fnSD (E := WE W) h7 hr hb hd (passAt tk σ) I2 r q
  · exact h.elim
/-! ### built-ins by name -/
def rBi (g : Glob) (b : BI) : List V → Hp → VK → Prop := fun vs H Q => ∃ φ G μ xs, Sub G H ∧ Rel g φ G μ ∧ RVs g φ G xs vs ∧ Good g (fun _ _ _ _ => False) [] φ G H (biM μ b xs) (kE g Q)
theorem call_bi {b : BI} (hc : X.calm = true) (hK : g.K = X.K) : CallR X (biVal b) (rBi g b) := by
  intro pins s σ H vs us Q I rv h
  obtain ⟨φ, G, μ, xs, sb, r, rx, h⟩ := h
  exact bi_ok (W := fun _ _ _ _ => False) hc hK I r sb (h.noX fun x' μ' => bi_noX x' μ') rx rv
theorem bi_read {b : BI} {As : List E} {σ : L2.St} {H : Hp} {Q : VK} (h : tE g T W md (.bi b As) σ H Q) : tCB (rBi g b) (tEs g T W md As) σ H Q := by
  obtain ⟨φ, G, μ, σm, sb, r, e, h⟩ := h
  simp only [evE] at h
  exact ⟨φ, G, μ, σm, sb, r, e, h.bind.imp fun xs μ1 φ1 G1 H1 e1 r1 k vs hvs => ⟨φ1, G1, μ1, xs, e1.sub, r1, hvs, k.noX fun x' μ' => bi_noX x' μ'⟩⟩
theorem se_bi {b : BI} {p : Pos} {e : PySem.Expr} {es : List PySem.Expr} {As : List E} (hc : X.calm = true) (hK : g.K = X.K) (hg : Gl X (biName b)) (hm : X.mg (biName b) = none) (hp : (e :: es).all plain = true) (ha : PA X (e :: es) (tEs g T W md As)) :
    PE X (.Call (.Name (biName b) p) (e :: es) [] pos) (tE g T W md (.bi b As)) := by
  rw [List.all_cons, Bool.and_eq_true] at hp
  have hn : biName b ≠ "__name__" := by cases b <;> decide
  have hd : (biName b == ("__debug__" : Str)) = false := by cases b <;> decide
  refine ⟨fun pins s σ H Q I h => ?_⟩
  have ty : (∃ id, biVal b = .builtin id) ∨ ∃ n, biVal b = .type n := by cases b <;> simp [biVal]
  have boot := bi_boot b
  have cr : CallR X (biVal b) (rBi g b) := call_bi hc hK
  rcases ty with ⟨id, hid⟩ | ⟨n, hid⟩
  · rw [hid] at boot cr
    exact (pe_callB cr hg hm boot ha hn hd (star_cons hp.1) (star_any hp.2)).run pins s σ H Q I (bi_read h)
  · rw [hid] at boot cr
    exact (pe_callTy cr hg hm boot ha hn hd (star_cons hp.1) (star_any hp.2)).run pins s σ H Q I (bi_read h)
/-! ### methods of built-in types -/
def notCall0 : PySem.Expr → Bool
  | .Call (.Name _ _) [] [] _ => false
  | _ => true
theorem attr_base {o : PySem.Expr} {n : Str} {env : PySem.Env} (h : notCall0 o = true) : attributeBase o n env (eval o env) = eval o env := by
  unfold notCall0 at h
  split at h
  · cases h
  · rename_i hne
    unfold attributeBase
    split
    · exact (hne _ _ _ rfl).elim
    · rfl
def rMt (g : Glob) (m : Mt) : V → List V → Hp → VK → Prop := fun v vs H Q => ∃ φ G μ x xs, Sub G H ∧ Rel g φ G μ ∧ RV g φ G x v ∧ RVs g φ G xs vs ∧ Good g (fun _ _ _ _ => False) [] φ G H (mthM μ m x xs) (kE g Q)
theorem mt_ok {m : Mt} (hK : g.K = X.K) : MtR X (mtId m) (rMt g m) := by
  intro pins s σ H v vs a us Q I ra rv h
  obtain ⟨φ, G, μ, x, xs, sb, r, rx, rs, h⟩ := h
  exact mth_ok (W := fun _ _ _ _ => False) hK I r sb (h.noX fun x' μ' => mth_noX x' μ') rx rs ra rv
theorem few_of {e : PySem.Expr} {es : List PySem.Expr} {env : PySem.Env} (hp : (e :: es).all plain = true) (hl : (e :: es).length < 30) :
    ((backTo pos (starEach (e :: es) env)).all (fun x => !x.1) && (backToKw pos (keywordEach [] env)).all (fun x => x.1.isSome) && decide ((e :: es).length + ([] : List Keyword).length + (if ([] : List Keyword).isEmpty then 0 else 1) < 30)) = true := by
  have h1 := star_any (env := env) (pos := pos) hp
  have h2 : (backTo pos (starEach (e :: es) env)).all (fun x => !x.1) = true := by
    rw [List.all_eq_true]
    intro y hy
    have := List.any_eq_false.mp h1 y hy
    simpa using this
  rw [h2]
  show (true && true && decide ((e :: es).length + 0 + 0 < 30)) = true
  simp only [Bool.and_self, Bool.true_and, decide_eq_true_eq]
  omega
theorem se_mth {m : Mt} {apos : Pos} {o e : PySem.Expr} {es : List PySem.Expr} {O : E} {As : List E} (hK : g.K = X.K) (ho : PE X o (tE g T W md O)) (hb : notCall0 o = true) (hline : (apos.endLine == pos.line) = true) (hp : (e :: es).all plain = true) (hl : (e :: es).length < 30) (ha : PA X (e :: es) (tEs g T W md As)) :
    PE X (.Call (.Attribute o (mtName m) apos) (e :: es) [] pos) (tE g T W md (.mth m O As)) := by
  have hp' := hp
  rw [List.all_cons, Bool.and_eq_true] at hp'
  refine ⟨fun pins s σ H Q I h => (pe_bm (mt_pa m) (mt_slot m) (mt_type m) (mt_ok hK) ho ha (attr_base hb) (few_of hp hl) hline (star_cons hp'.1) (star_any hp'.2)).run pins s σ H Q I ?_⟩
  obtain ⟨φ, G, μ, σm, sb, r, e, h⟩ := h
  simp only [evE] at h
  refine ⟨φ, G, μ, σm, sb, r, e, h.bind.imp fun v μ1 φ1 G1 H1 e1 r1 k w hw => ?_⟩
  split at k
  · rename_i hty
    have ht := mth_ty hty r1 e1.sub hw
    rw [hK] at ht
    exact ⟨ht, φ1, G1, μ1, σm, e1.sub, r1, e.ext e1, k.bind.imp fun xs μ2 φ2 G2 H2 e2 r2 k vs hvs => ⟨φ2, G2, μ2, v, xs, e2.sub, r2, hw.ext e2, hvs, k.noX fun x' μ' => mth_noX x' μ'⟩⟩
  · exact k.elim
/-! ### isinstance -/
/-- a class as it is written -/
def tyName : TyR → Option Str
  | .int => some "int" | .bool => some "bool" | .str => some "str" | .list => some "list" | .tuple => some "tuple" | .dict => some "dict" | .cls _ => none
/-- an expression that is the class t -/
def PCl (X : Cx) (g : Glob) (e : PySem.Expr) (t : TyR) : Prop := ∃ v u, PE X e (tC v) ∧ ClsV v u ∧ tyCl g t = some u
theorem pcl_ty {t : TyR} {x : Str} {p : Pos} (h : tyName t = some x) (hg : Gl X x) (hm : X.mg x = none) : PCl X g (.Name x p) t := by
  cases t <;> simp only [tyName, Option.some.injEq] at h <;> (try cases h)
  · exact ⟨.ty "int", _, pe_bltn hg hm (u := .type "int") (by decide +kernel) rfl (by decide) (by decide), .ty _, rfl⟩
  · exact ⟨.ty "bool", _, pe_bltn hg hm (u := .type "bool") (by decide +kernel) rfl (by decide) (by decide), .ty _, rfl⟩
  · exact ⟨.ty "str", _, pe_bltn hg hm (u := .type "str") (by decide +kernel) rfl (by decide) (by decide), .ty _, rfl⟩
  · exact ⟨.ty "list", _, pe_bltn hg hm (u := .type "list") (by decide +kernel) rfl (by decide) (by decide), .ty _, rfl⟩
  · exact ⟨.ty "tuple", _, pe_bltn hg hm (u := .type "tuple") (by decide +kernel) rfl (by decide) (by decide), .ty _, rfl⟩
  · exact ⟨.ty "dict", _, pe_bltn hg hm (u := .type "dict") (by decide +kernel) rfl (by decide) (by decide), .ty _, rfl⟩
theorem pcl_cls {j : Nat} {C : Addr} {x : Str} {p : Pos} (h : g.cA j = some C) (hg : Gl X x) (hm : X.mg x = some (.ref C)) (hdb : (x == ("__debug__" : Str)) = false) : PCl X g (.Name x p) (.cls j) :=
  ⟨.ref C, .ref C, pe_glob hg hm rfl hdb, .own C, by simp only [tyCl, h, Option.map_some]⟩
theorem tys1 {P : Prog} {μ : Mem} {x : MV} {t : TyR} {b : Bool} (h : tysM P μ x [t] = some b) : tyM P μ x t = some b := by
  simp only [tysM] at h
  split at h
  · rename_i e
    rw [e, ← h]
  · rename_i e
    rw [e, ← h]
  · cases h
theorem isin_read {t : TyR} {v : V} {u : Value} (hP : KitG g) (hT : T.P = g.P) (hK : g.K = X.K) (hv : ClsV v u) (hu : tyCl g t = some u) {σ : L2.St} {H : Hp} {Q : VK} (h : tE g T W md (.isin A [t]) σ H Q) : tCB (rIsi X.K) (tCons (tE g T W md A) (tCons (tC v) tNil)) σ H Q := by
  obtain ⟨φ, G, μ, σm, sb, r, e, h⟩ := h
  simp only [evE] at h
  refine ⟨φ, G, μ, σm, sb, r, e, h.bind.imp fun x μ1 φ1 G1 H1 e1 r1 k w hw => ?_⟩
  obtain ⟨b, hb, q⟩ := Good.opt k.bind e1.sub r1
  have hb1 := tys1 hb
  rw [hT] at hb1
  obtain ⟨tv, h1, h2⟩ := tyM_ok hP hb1 r1 e1.sub hw hu
  refine ⟨w, v, tv, u, b, rfl, hv, ?_, by rw [← hK]; exact h2, q.here e1.sub r1 _ (by simp only [RV])⟩
  rw [← hK]
  exact tyOf_ok hP h1 r1 e1.sub hw
theorem se_isin {t : TyR} {p : Pos} {e : PySem.Expr} (hP : KitG g) (hT : T.P = g.P) (hK : g.K = X.K) (hg : Gl X "isinstance") (hm : X.mg "isinstance" = none) (hp : plain a = true) (hp' : plain e = true) (ha : PE X a (tE g T W md A)) (he : PCl X g e t) :
    PE X (.Call (.Name "isinstance" p) [a, e] [] pos) (tE g T W md (.isin A [t])) := by
  obtain ⟨v, u, he, hv, hu⟩ := he
  refine ⟨fun pins s σ H Q I h => (pe_callB (x := "isinstance") (id := "isinstance") call_isi hg hm (by decide +kernel) (pa_cons ha (pa_cons he pa_nil (star_cons hp')) (star_cons hp)) (by decide) (by decide) (star_cons hp) (star_any (by simp [hp']))).run pins s σ H Q I ?_⟩
  exact isin_read hP hT hK hv hu h
def tCs (vs : List V) : TA := fun _ H Q => Q vs H
/-- a row of classes -/
def PCls (X : Cx) (g : Glob) (es : List PySem.Expr) (ts : List TyR) : Prop := ∃ vs us, PA X es (tCs vs) ∧ Paired ClsV vs us ∧ Paired (fun t u => tyCl g t = some u) ts us ∧ vs.length = es.length
theorem pcls_nil : PCls X g [] [] := ⟨[], [], ⟨fun pos pins s σ H Q I h => pa_nil.run pos pins s σ H Q I h⟩, .nil, .nil, rfl⟩
theorem pcls_cons {e : PySem.Expr} {es : List PySem.Expr} {t : TyR} {ts : List TyR} (hp : plain e = true) (he : PCl X g e t) (hr : PCls X g es ts) : PCls X g (e :: es) (t :: ts) := by
  obtain ⟨v, u, he, hv, hu⟩ := he
  obtain ⟨vs, us, ha, hvs, hus, hn⟩ := hr
  exact ⟨v :: vs, u :: us, ⟨fun pos pins s σ H Q I h => (pa_cons he ha (star_cons hp)).run pos pins s σ H Q I h⟩, .cons hv hvs, .cons hu hus, by simp [hn]⟩
theorem se_isinT {ts : List TyR} {p p' : Pos} {j : Nat} {es : List PySem.Expr} (hP : KitG g) (hT : T.P = g.P) (hK : g.K = X.K) (hg : Gl X "isinstance") (hm : X.mg "isinstance" = none) (hp : plain a = true) (hl : es.length ≤ 50) (hne : ts ≠ []) (ha : PE X a (tE g T W md A)) (he : PCls X g es ts) :
    PE X (.Call (.Name "isinstance" p) [a, .Tuple es j p'] [] pos) (tE g T W md (.isin A ts)) := by
  obtain ⟨vs, us, he, hv, hu, hn⟩ := he
  refine ⟨fun pins s σ H Q I h => (pe_callB (x := "isinstance") (id := "isinstance") call_isiT hg hm (by decide +kernel) (pa_cons ha (pa_cons (pe_tup he) pa_nil (star_cons rfl)) (star_cons hp)) (by decide) (by decide) (star_cons hp) (star_any rfl)).run pins s σ H Q I ?_⟩
  obtain ⟨φ, G, μ, σm, sb, r, e, h⟩ := h
  simp only [evE] at h
  refine ⟨φ, G, μ, σm, sb, r, e, h.bind.imp fun x μ1 φ1 G1 H1 e1 r1 k w hw => ⟨Nat.le_trans (by rw [hn]; exact hl) (by decide : 50 ≤ sizeLine), fun q hq => ?_⟩⟩
  obtain ⟨b, hb, kq⟩ := Good.opt k.bind e1.sub r1
  rw [hT] at hb
  have hG := e1.sub.none hq
  have e2 : Ext none φ1 G1 H1 φ1 (upd G1 q (.tup vs)) (upd H1 q (.tup vs)) := by
    have := Ext.new (ex := none) (φ := φ1) e1.sub (o := .tup vs) hq []
    rwa [List.append_nil] at this
  have r2 := r1.grow (sub_new (o := .tup vs) hG)
  have hw2 := hw.ext e2
  have ty : ∃ tv, tyOfM g μ1 x = some tv ∧ PySem.W.kitAny g.K tv us = some b := by
    cases ts with
    | nil => exact absurd rfl hne
    | cons t ts =>
      cases hu with
      | cons h1 h2 =>
        rename_i u us'
        have : ∃ k, tyM g.P μ1 x t = some k := by
          simp only [tysM] at hb
          split at hb
          · exact ⟨_, by assumption⟩
          · exact ⟨_, by assumption⟩
          · cases hb
        obtain ⟨k', hk'⟩ := this
        obtain ⟨tv, h3, h4⟩ := tyM_ok hP hk' r2 e2.sub hw2 h1
        exact ⟨tv, h3, tysM_ok hP r2 e2.sub hw2 h3 (t :: ts) (u :: us') b hb (.cons h1 h2)⟩
  obtain ⟨tv, h1, h2⟩ := ty
  refine ⟨w, q, vs, tv, us, b, rfl, upd_same, hv, ?_, by rw [← hK]; exact h2, (Good.ext kq e2).here e2.sub r2 _ (by simp only [RV])⟩
  rw [← hK]
  exact tyOf_ok hP h1 r2 e2.sub hw2
/-! ### fields -/
theorem idx_lookup {fs : List (Str × V)} {f : Str} {j : Nat} {v : V} (h1 : (fs.map (·.1)).idxOf? f = some j) (h2 : (fs.map (·.2))[j]? = some v) : fs.lookup f = some v := by
  induction fs generalizing j with
  | nil => cases h1
  | cons p fs ih =>
    obtain ⟨n, u⟩ := p
    rw [List.map_cons, List.idxOf?_cons] at h1
    rw [List.lookup_cons]
    by_cases hb : n == f
    · have e := eq_of_beq hb
      subst e
      rw [if_pos (by simp)] at h1
      cases h1
      simp only [beq_self_eq_true]
      simpa using h2
    · have hb2 : (f == n) = false := by
        rw [beq_eq_false_iff_ne]
        intro z
        subst z
        simp at hb
      rw [if_neg (by simpa using hb)] at h1
      rw [hb2]
      obtain ⟨i, h3, rfl⟩ := Option.map_eq_some_iff.mp h1
      exact ih h3 (by simpa using h2)
theorem se_fld {f : Str} {o : PySem.Expr} {O : E} (hC : ∀ c C Cl, g.cA c = some C → g.P.clss[c]? = some Cl → Cl.init.isSome = true → L2.Cls g.K C ∧ ∀ f ∈ Cl.fields, NoAttr g.K C f) (hT : T.P = g.P) (hK : g.K = X.K) (ho : PE X o (tE g T W md O)) (hb : notCall0 o = true) : PE X (.Attribute o f pos) (tE g T W md (.fld O f)) := by
  refine ⟨fun pins s σ H Q I h => (pe_fld ho (attr_base hb)).run pins s σ H Q I ?_⟩
  obtain ⟨φ, G, μ, σm, sb, r, e, h⟩ := h
  simp only [evE] at h
  refine ⟨φ, G, μ, σm, sb, r, e, h.bind.imp fun x μ1 φ1 G1 H1 e1 r1 k w hw => ?_⟩
  split at k
  · rename_i c vs
    obtain ⟨z, hz, q⟩ := Good.opt k e1.sub r1
    simp only [RV] at hw
    obtain ⟨a, C, dx, fs, Cl, rfl, hc, hg, hl, hn, hr⟩ := hw
    rw [hT, hl] at hz
    simp only [Option.bind_some] at hz
    split at hz
    · rename_i hi
      obtain ⟨j, h1, h2⟩ := Option.bind_eq_some_iff.mp hz
      obtain ⟨u, h3, h4⟩ := hr.get h2
      rw [← hn] at h1
      have hf : f ∈ Cl.fields := by
        rw [← hn]
        exact List.isSome_idxOf?.mp (by rw [h1]; rfl)
      obtain ⟨c1, c2⟩ := hC c C Cl hc hl hi
      rw [hK] at c1 c2
      exact ⟨a, C, dx, fs, u, rfl, e1.sub _ _ hg, c1, c2 f hf, idx_lookup h1 h3, q u h4⟩
    · cases hz
  · exact k.elim
end
end Mch

/-! ## Objects: methods, operators -/
namespace Mch
open PySem PySem.Spec PyProof.Rows L2
/-- a method's def: f of the machine, at a -/
structure MetOk (g : Glob) (T : Tab) (P : Program) (w : World) (K : PySem.W.Frag) (mg : Str → Option Value) (base : Heap) (k : Nat) (f : Nat) (a : Addr) : Prop where
  ex : ∃ (fd : FuncData) (ps : List Str) (dvs : List V) (D : Def), T.P.defs[f]? = some D ∧ (∀ φ G, RVs g φ G D.dfl dvs) ∧
    (∀ m, m ≤ dvs.length → ∃ ds, Vals (dvs.drop m) ds ∧ Binds K fd ps ds) ∧ FnOk P w K mg base (L2.CX P w) k a fd ps (spM g T f) ∧ (∀ xs μ, (fullArgs D xs).length = D.np → T.call f xs μ = T.call f (fullArgs D xs) μ) ∧ (∀ xs μ, T.call f xs μ ≠ .no → (fullArgs D xs).length = D.np)
section
variable {X : Cx} {pins : List (Addr × Obj)} {s : Shared} {σ : L2.St} {g : Glob} {T : Tab} {φ : List Addr} {G H : Hp} {μ : Mem} {W : WX} {Q : VK} {k : Nat}
/-- a call of it by values -/
theorem met_call {f : Nat} {a : Addr} {xs : List MV} {vs : List V} {us : List Value} (M : MetOk g T X.prog X.w X.K X.mg X.base k f a) (hr : Room k X.A) (tk : Takes X W) (I : Inv X pins σ H s) (r : Rel g φ G μ) (sb : Sub G H) (rx : RVs g φ G xs vs) (ra : Vals vs us)
    (h : Good g W σ φ G H (T.call f xs μ) (kE g Q)) : wpAny (model X.prog X.w) X.A (call (.ref a) us) (EP X pins σ Q) X.xe s := by
  obtain ⟨fd, ps, dvs, D, h4, h5, h6, h7, h8, h9⟩ := M.ex
  have h5l : D.dfl.length = dvs.length := (h5 [] fun _ => none).len
  have hnp := h9 _ _ (good_no h)
  obtain ⟨ds, hd, hb⟩ := h6 (min (D.dfl.length - (D.np - xs.length)) dvs.length) (Nat.min_le_right _ _)
  have em : dvs.drop (min (D.dfl.length - (D.np - xs.length)) dvs.length) = dvs.drop (D.dfl.length - (D.np - xs.length)) := by
    rw [Nat.min_eq_left]
    omega
  rw [em] at hd
  refine run_fnSD (E := WE W) h7 hr hb hd (passAt tk σ) I ra ⟨φ, G, μ, fullArgs D xs, D, sb, r, ?_, h4, hnp, ?_⟩
  · unfold fullArgs
    exact rx.append ((h5 φ G).drop _)
  · rw [← h8 _ _ hnp]
    exact good_W h
/-- .. deeper in the stack of the built-ins -/
theorem met_call_at {A : Around} {f : Nat} {a : Addr} {xs : List MV} {vs : List V} {us : List Value} (M : MetOk g T X.prog X.w X.K X.mg X.base k f a) (hr : Room k A) (e0 : Env0 X.prog X.w X.K X.mg X.base A X.stack s H) (tk : Takes X W) (I : Inv X pins σ H s) (r : Rel g φ G μ) (sb : Sub G H) (rx : RVs g φ G xs vs) (ra : Vals vs us)
    (h : Good g W σ φ G H (T.call f xs μ) (kE g Q)) : codeAny (model X.prog X.w) A (.call (.ref a) ⟨us, []⟩) (fun r s' => match r with | .ok (.ret v) => EP X pins σ Q v s' | .ok _ => False | .error e => X.xe e s') s := by
  obtain ⟨fd, ps, dvs, D, h4, h5, h6, h7, h8, h9⟩ := M.ex
  have h5l : D.dfl.length = dvs.length := (h5 [] fun _ => none).len
  have hnp := h9 _ _ (good_no h)
  obtain ⟨ds, hd, hb⟩ := h6 (min (D.dfl.length - (D.np - xs.length)) dvs.length) (Nat.min_le_right _ _)
  have em : dvs.drop (min (D.dfl.length - (D.np - xs.length)) dvs.length) = dvs.drop (D.dfl.length - (D.np - xs.length)) := by
    rw [Nat.min_eq_left]
    omega
  rw [em] at hd
  have hsp : spM g T f (vs ++ dvs.drop (D.dfl.length - (D.np - xs.length))) H Q (WE W σ) := ⟨φ, G, μ, fullArgs D xs, D, sb, r, by unfold fullArgs; exact rx.append ((h5 φ G).drop _), h4, hnp, by rw [← h8 _ _ hnp]; exact good_W h⟩
  have r2 := ra.append hd
  have hl : (us ++ ds).length = ps.length := by rw [← r2.length]; exact h7.len _ _ _ _ hsp
  refine codeAny_mono (h7.run A X.stack s H ⟨us, []⟩ (us ++ ds) _ Q (WE W σ) hr e0 (hb s us I.kIn hl) r2 hsp) fun r s' hq => ?_
  cases r with
  | error e => exact passAt tk σ pins H s e s' I hq
  | ok fl =>
    cases fl with
    | ret u => exact I.after hq
    | next => exact False.elim hq
    | brk => exact False.elim hq
    | cont => exact False.elim hq
/-- what the head says of the classes that are made -/
structure ObjK (g : Glob) : Prop where
  cls : ∀ c C Cl, g.cA c = some C → g.P.clss[c]? = some Cl → Cl.exc = false → L2.Cls g.K C ∧ PySem.W.selfFirst g.K C = true ∧ ∀ n ∈ ["NoneType", "bool", "int", "str", "tuple", "list"], PySem.W.subIn g.K (.type n) (.ref C) = some false
  meth : ∀ c C Cl m f, g.cA c = some C → g.P.clss[c]? = some Cl → Cl.exc = false → Cl.meths.lookup m = some f → ∃ a, g.mA f = some a ∧ Meth g.K C m a ∧ Cl.fields.contains m = false
  sub : ∀ c d C D Cl Dl, g.cA c = some C → g.cA d = some D → g.P.clss[c]? = some Cl → g.P.clss[d]? = some Dl → Cl.exc = false → Dl.exc = false → PySem.W.subIn g.K (.ref D) (.ref C) = some (decide (c ∈ Dl.up))
  ne : ∀ c C Cl, g.cA c = some C → g.P.clss[c]? = some Cl → Cl.exc = false → Cl.meths.lookup ("__ne__" : Str) = none → PySem.W.findIn g.K (.ref C) "__ne__" = some (some (.builtin "object.__ne__"))
  obj : ∀ c C Cl, g.cA c = some C → g.P.clss[c]? = some Cl → Cl.exc = false → PySem.W.mroIn g.K C (.type "object") = some true
  fmt : ∀ c C Cl, g.cA c = some C → g.P.clss[c]? = some Cl → Cl.exc = false → PySem.W.findIn g.K (.ref C) "__format__" = some (some (.builtin "object.__format__"))
  refl : ∀ c C Cl, g.cA c = some C → g.P.clss[c]? = some Cl → Cl.exc = false → ∀ op ∈ [Operator.Add, .Sub, .Mult], PySem.W.findIn g.K (.ref C) (PySem.dunderR op.info.2) = some none
end
end Mch

/-! ## Operators of objects -/
namespace Mch
open PySem PySem.Spec PyProof.Rows L2
section
variable {X : Cx} {pins : List (Addr × Obj)} {s : Shared} {σ : L2.St} {g : Glob} {T : Tab} {φ : List Addr} {G H : Hp} {μ : Mem} {W : WX} {Q : VK} {k : Nat} {x y : MV} {v w : V} {a b : Value}
/-- what an operator's rule takes of the context -/
structure ObjX (X : Cx) (g : Glob) (T : Tab) (W : WX) (k : Nat) : Prop where
  K : g.K = X.K
  TP : T.P = g.P
  o : ObjK g
  kit : KitG g
  met : ∀ f a, g.mA f = some a → MetOk g T X.prog X.w X.K X.mg X.base k f a
  hr2 : Room (k + 2) X.A
  tk : Takes X W
theorem ObjX.hr (h : ObjX X g T W k) : Room k X.A := h.hr2.mono (by omega)
theorem op_name {op : Operator} {P : Prog} {c f : Nat} (h : methOf P c (opName op) = some f) (hn : methOf P c "-" = none) : op ∈ [Operator.Add, .Sub, .Mult] ∧ opName op = PySem.dunder op.info.2 := by
  cases op <;> first
    | exact ⟨by simp, by decide +kernel⟩
    | (exfalso; have h : methOf P c "-" = some f := h; rw [hn] at h; cases h)
theorem meth_get {P : Prog} {c f : Nat} {m : Str} (h : methOf P c m = some f) : ∃ Cl, P.clss[c]? = some Cl ∧ Cl.exc = false ∧ Cl.meths.lookup m = some f := by
  unfold methOf at h
  obtain ⟨Cl, h1, h2⟩ := Option.bind_eq_some_iff.mp h
  split at h2
  · cases h2
  · rename_i he
    exact ⟨Cl, h1, by simpa using he, h2⟩
/-- the other side's type -/
theorem oth_type {c : Nat} {C : Addr} (hO : ObjX X g T W k) (I : Inv X pins σ H s) (hc : g.cA c = some C) (h : othB c μ y = true) (r : Rel g φ G μ) (sb : Sub G H) (ry : RV g φ G y w) (rb : RelV w b) :
    (∃ n ∈ ["NoneType", "bool", "int", "str", "tuple", "list"], PySem.W.Looks (model X.prog X.w) s.heap (typeOf b) (.type n)) ∨ (∃ a' dx fs, w = .ref a' ∧ H a' = some (.ins C dx fs)) := by
  have bi : ∀ {n : String}, n ∈ ["NoneType", "bool", "int", "str", "tuple", "list"] → TyX X.K H w (.type n) → ∃ n ∈ ["NoneType", "bool", "int", "str", "tuple", "list"], PySem.W.Looks (model X.prog X.w) s.heap (typeOf b) (.type n) := fun {n} hn ty => by
    obtain ⟨P, kx, hp, _⟩ := kit_of I rb ty
    exact ⟨n, hn, kx.ty _ _ I.kIn hp⟩
  have hK := hO.K
  cases y <;> simp only [othB, Bool.false_eq_true] at h
  · simp only [RV] at ry; subst ry; exact .inl (bi (n := "NoneType") (by simp) (.base .non))
  · simp only [RV] at ry; subst ry; exact .inl (bi (n := "bool") (by simp) (.base (.bl _)))
  · simp only [RV] at ry; subst ry; exact .inl (bi (n := "int") (by simp) (.base (.int _)))
  · simp only [RV] at ry; subst ry; exact .inl (bi (n := "str") (by simp) (.base (.str _)))
  · simp only [RV] at ry
    obtain ⟨p, vs, rfl, hq, hv⟩ := ry
    rw [hK] at hq
    exact .inl (bi (n := "tuple") (by simp) (tyX_tup (sqT_sub sb hq)))
  · obtain ⟨ys, e⟩ := Option.isSome_iff_exists.mp h
    obtain ⟨p, vs, rfl, _, hq, hv⟩ := r.ref e ry
    rw [hK] at hq
    exact .inl (bi (n := "list") (by simp) (tyX_list (sqL_sub sb hq)))
  · rename_i d ws
    have e := eq_of_beq h
    subst e
    simp only [RV] at ry
    obtain ⟨p, C', dx, fs, Cl, rfl, h1, h2, _⟩ := ry
    rw [hc] at h1
    cases h1
    exact .inr ⟨p, dx, fs, rfl, sb _ _ h2⟩
theorem inst_of {p C dx : Addr} {fs : List (Str × V)} (I : Inv X pins σ H s) (e : H p = some (.ins C dx fs)) : ∃ ox od, PySem.W.InstAt s.heap p ox C (some od) := by
  obtain ⟨mA, O, _⟩ := ins_get I.hok e
  obtain ⟨od, J, _⟩ := O.look
  exact ⟨_, od, J⟩
theorem binT_ok {op : Operator} (hO : ObjX X g T W k) (hn : ∀ c, methOf g.P c "-" = none) (I : Inv X pins σ H s) (r : Rel g φ G μ) (sb : Sub G H) (h : Good g W σ φ G H (binT T μ op x y) (kE g Q)) (rx : RV g φ G x v) (ry : RV g φ G y w) (ra : RelV v a) (rb : RelV w b) :
    wpAny (model X.prog X.w) X.A (binaryOp op a b) (EP X pins σ Q) X.xe s := by
  unfold binT at h
  split at h
  · rename_i c vs
    split at h
    · rename_i f hf
      split at h
      · rename_i ho
        rw [hO.TP] at hf
        obtain ⟨hop, hnm⟩ := op_name hf (hn c)
        obtain ⟨Cl, hl, he, hm⟩ := meth_get hf
        have rx0 := rx
        simp only [RV] at rx
        obtain ⟨p, C, dx, fs, Cl', rfl, hc, hg, _⟩ := rx
        obtain ⟨c1, c2, c3⟩ := hO.o.cls c C Cl hc hl he
        obtain ⟨fa, m1, m2, _⟩ := hO.o.meth c C Cl _ f hc hl he hm
        have rfl2 := hO.o.refl c C Cl hc hl he op hop
        rw [hO.K] at c2 c3 m2 rfl2
        rw [hnm] at m2
        cases (show a = Value.ref p from ra)
        obtain ⟨ox, od, J⟩ := inst_of I (sb _ _ hg)
        obtain ⟨m, hF⟩ := I.fr
        have call := met_call (us := [.ref p, b]) (vs := [.ref p, w]) (hO.met f fa m1) hO.hr hO.tk I r sb (rvs_cons rx0 (rvs_cons ry rvs_nil)) (.cons rfl (.cons rb .nil)) h
        have call2 : wpAny (model X.prog X.w) X.A (PySem.call (.ref fa) [.ref p, b]) (PySem.W.CmpBack (EP X pins σ Q)) X.xe s := wpAny_mono call (fun u s' hu => by
          obtain ⟨z, H', I', rz, q⟩ := hu
          exact SlX.cmpback rz ⟨z, H', I', rz, q⟩) fun _ _ e => e
        rcases oth_type hO I hc ho r sb ry rb with ⟨n, hn, hty⟩ | ⟨p', dx', fs', rfl, e'⟩
        · exact bino_K hF I.ok.mod.kin J hty (other_ok n hn op hop) c2 (c3 n hn) m2.at_ rfl2 m2.fn call2
        · cases (show b = Value.ref p' from rb)
          obtain ⟨ox', od', J'⟩ := inst_of I e'
          exact PySem.W.binop_K hF I.ok.mod.kin J J'.type c2 m2.at_ m2.fn call2
      · exact h.elim
    · exact h.elim
  · exact bin_ok hO.K I r sb h rx ry ra rb
/-- a method called on the object, by the machine's run -/
theorem obj_call {c f : Nat} {m : Str} {vs : List MV} {ws : List MV} {vw : List V} {bs : List Value} (hO : ObjX X g T W k) (I : Inv X pins σ H s) (r : Rel g φ G μ) (sb : Sub G H) (hf : methOf g.P c m = some f) (rx : RV g φ G (.obj c vs) v) (ra : RelV v a) (rw' : RVs g φ G ws vw) (rb : Vals vw bs) :
    ∃ p C fa ox od, a = .ref p ∧ g.cA c = some C ∧ PySem.W.InstAt s.heap p ox C (some od) ∧ Meth X.K C m fa ∧ (∀ n ∈ ["NoneType", "bool", "int", "str", "tuple", "list"], PySem.W.subIn X.K (.type n) (.ref C) = some false) ∧
      ∀ {Q : VK}, Good g W σ φ G H (T.call f (.obj c vs :: ws) μ) (kE g Q) → wpAny (model X.prog X.w) X.A (PySem.call (.ref fa) (.ref p :: bs)) (EP X pins σ Q) X.xe s := by
  obtain ⟨Cl, hl, he, hm⟩ := meth_get hf
  have rx0 := rx
  simp only [RV] at rx
  obtain ⟨p, C, dx, fs, Cl', rfl, hc, hg, _⟩ := rx
  obtain ⟨c1, c2, c3⟩ := hO.o.cls c C Cl hc hl he
  obtain ⟨fa, m1, m2, _⟩ := hO.o.meth c C Cl m f hc hl he hm
  rw [hO.K] at c3 m2
  cases (show a = Value.ref p from ra)
  obtain ⟨ox, od, J⟩ := inst_of I (sb _ _ hg)
  exact ⟨p, C, fa, ox, od, rfl, hc, J, m2, c3, fun {Q} h => met_call (us := .ref p :: bs) (vs := .ref p :: vw) (hO.met f fa m1) hO.hr hO.tk I r sb (rvs_cons rx0 rw') (.cons rfl rb) h⟩
theorem negT_ok (hO : ObjX X g T W k) (I : Inv X pins σ H s) (r : Rel g φ G μ) (sb : Sub G H) (h : Good g W σ φ G H (negT T μ x) (kE g Q)) (rx : RV g φ G x v) (ra : RelV v a) : wpAny (model X.prog X.w) X.A (unaryOp .USub a) (EP X pins σ Q) X.xe s := by
  unfold negT at h
  split at h
  · rename_i c vs
    split at h
    · rename_i f hf
      rw [hO.TP] at hf
      obtain ⟨p, C, fa, ox, od, rfl, hc, J, hm, _, call⟩ := obj_call (ws := []) (vw := []) (bs := []) hO I r sb hf rx ra rvs_nil .nil
      unfold unaryOp
      refine wpAny_holding ?_
      show wpAny _ _ (do match ← callSpecial? (.ref p) "__neg__" with
        | some r => pure r
        | none => _) _ _ _
      refine wpAny_bind (PySem.W.special_fn I.kIn J hm.at_ (beq_iff_eq.mp hm.fn) (wpAny_mono (call h) (fun u s' hu => ?_) fun _ _ e => e))
      exact wpAny_pure hu
    · exact h.elim
  · simp only [RV] at rx
    subst rx
    exact un_neg pins s σ H _ a Q I ra ⟨_, rfl, h.here sb r _ (by simp only [RV])⟩
  · exact h.elim
theorem cm_info {op : CmpOp} {m : Str} (h : cmName op = some m) : (∀ a b, compareOp op a b = richCompare op a b) ∧ m = (cmpInfo op).2.1 := by
  cases op <;> simp only [cmName, reduceCtorEq, Option.some.injEq] at h <;> subst h <;> exact ⟨fun _ _ => rfl, rfl⟩
theorem othC_type {c : Nat} {C : Addr} {Cl : ClsM} (hO : ObjX X g T W k) (I : Inv X pins σ H s) (hc : g.cA c = some C) (hl : g.P.clss[c]? = some Cl) (he : Cl.exc = false) (h : othC g.P c μ y = true) (r : Rel g φ G μ) (sb : Sub G H) (ry : RV g φ G y w) (rb : RelV w b) :
    ∃ tb, PySem.W.Looks (model X.prog X.w) s.heap (typeOf b) tb ∧ PySem.W.notFirst X.K C tb = true := by
  have c3 := (hO.o.cls c C Cl hc hl he).2.2
  rw [hO.K] at c3
  have base : othB c μ y = true → ∃ tb, PySem.W.Looks (model X.prog X.w) s.heap (typeOf b) tb ∧ PySem.W.notFirst X.K C tb = true := fun h => by
    rcases oth_type hO I hc h r sb ry rb with ⟨n, hn, hty⟩ | ⟨p', dx', fs', rfl, e'⟩
    · exact ⟨_, hty, by unfold PySem.W.notFirst; rw [c3 n hn]; rfl⟩
    · cases (show b = Value.ref p' from rb)
      obtain ⟨ox', od', J'⟩ := inst_of I e'
      exact ⟨_, J'.type, by unfold PySem.W.notFirst; simp⟩
  cases y with
  | obj d ws =>
    simp only [othC, Bool.or_eq_true] at h
    rcases h with h | h
    · exact base h
    · split at h
      · rename_i D hD
        simp only [Bool.and_eq_true, Bool.not_eq_true', List.contains_eq_mem, decide_eq_false_iff_not] at h
        simp only [RV] at ry
        obtain ⟨p, C', dx, fs, Cl', rfl, h1, h2, _⟩ := ry
        cases (show b = Value.ref p from rb)
        obtain ⟨ox', od', J'⟩ := inst_of I (sb _ _ h2)
        refine ⟨_, J'.type, ?_⟩
        have := hO.o.sub c d C C' Cl D hc h1 hl hD he h.1
        rw [hO.K] at this
        unfold PySem.W.notFirst
        rw [this, decide_eq_false h.2]
        simp
      · cases h
  | _ => exact base h
theorem cmpT_ok {op : CmpOp} {Q : Bool → Hp → Prop} (hO : ObjX X g T W k) (hu : X.A.units + 64 < cLine) (I : Inv X pins σ H s) (r : Rel g φ G μ) (sb : Sub G H) (h : Good g W σ φ G H (cmpT T μ op x y) fun kb _ _ _ H1 => Q kb H1) (rx : RV g φ G x v) (ry : RV g φ G y w) (ra : RelV v a) (rb : RelV w b) :
    wpAny (model X.prog X.w) X.A (compareOp op a b) (EP X pins σ fun z H1 => ∃ kb, z = .bl kb ∧ Q kb H1) X.xe s := by
  unfold cmpT at h
  split at h
  · rename_i c vs
    split at h
    · rename_i hop
      have eop : op = .NotEq := by cases op <;> first | rfl | cases hop
      subst eop
      split at h
      · rename_i f hf
        split at h
        · rename_i ho
          rw [Bool.and_eq_true] at ho
          rw [hO.TP] at hf ho
          obtain ⟨Cl, hl, he, hm⟩ := meth_get hf
          have hne : Cl.meths.lookup ("__ne__" : Str) = none := by
            have := ho.1
            unfold methOf at this
            rw [hl, Option.bind_some, if_neg (by rw [he]; exact Bool.false_ne_true)] at this
            exact Option.isNone_iff_eq_none.mp this
          have rx0 := rx
          simp only [RV] at rx
          obtain ⟨p, C, dx, fs, Cl', rfl, hcc, hg, _⟩ := rx
          obtain ⟨fa, m1, m2, _⟩ := hO.o.meth c C Cl _ f hcc hl he hm
          have n1 := hO.o.ne c C Cl hcc hl he hne
          have n2 := hO.o.obj c C Cl hcc hl he
          rw [hO.K] at m2 n1 n2
          cases (show a = Value.ref p from ra)
          obtain ⟨ox, od, J⟩ := inst_of I (sb _ _ hg)
          obtain ⟨mm, hF⟩ := I.fr
          obtain ⟨tb, hty, hnf⟩ := othC_type hO I hcc hl he ho.2 r sb ry rb
          have hr1 : Room (k + 1) X.A.in1 := Room.in1 hO.hr2
          show wpAny _ _ (richCompare .NotEq (.ref p) b) _ _ _
          have hun := hr1.units0
          refine ne_K (by omega) hun hF I.ok.mod.kin J hty hnf n1 n2 m2.at_ m2.fn (wpAny_mono (wpAny_call (met_call_at (us := [.ref p, b]) (vs := [.ref p, w]) (Q := fun z H1 => ∃ kb, z = .bl kb ∧ Q (!kb) H1) (hO.met f fa m1) (hr1.mono (by omega)) I.env0.in1 hO.tk I r sb (rvs_cons rx0 (rvs_cons ry rvs_nil)) (.cons rfl (.cons rb .nil)) (h.bind.imp fun z μ1 φ1 G1 H1 e1 r1 kk u hu' => ?_))) (fun u s' hu' => ?_) fun _ _ e => e)
          · split at kk
            · simp only [RV] at hu'
              exact ⟨_, hu', kk.here e1.sub r1⟩
            · exact kk.elim
          · obtain ⟨z, H', I', rz, kb, rfl, q⟩ := hu'
            cases (show u = Value.bool kb from rz)
            exact ⟨kb, rfl, .bl (!kb), H', I', rfl, _, rfl, q⟩
        · exact h.elim
      · exact h.elim
    · split at h
      · rename_i f hf
        split at h
        · rename_i ho
          rw [hO.TP] at hf ho
          obtain ⟨m, hm0, hf⟩ := Option.bind_eq_some_iff.mp hf
          obtain ⟨q1, q2⟩ := cm_info hm0
          obtain ⟨Cl, hl, he, _⟩ := meth_get hf
          obtain ⟨p, C, fa, ox, od, rfl, hc, J, hm, c3, call⟩ := obj_call (ws := [y]) (vw := [w]) (bs := [b]) hO I r sb hf rx ra (rvs_cons ry rvs_nil) (.cons rb .nil)
          obtain ⟨mm, hF⟩ := I.fr
          obtain ⟨tb, hty, hnf⟩ := othC_type hO I hc hl he ho r sb ry rb
          have call2 : wpAny (model X.prog X.w) X.A (PySem.call (.ref fa) [.ref p, b]) (PySem.W.CmpBack (EP X pins σ fun z H1 => ∃ kb, z = .bl kb ∧ Q kb H1)) X.xe s := wpAny_mono (call (Q := fun z H1 => ∃ kb, z = .bl kb ∧ Q kb H1) (h.bind.imp fun z μ1 φ1 G1 H1 e1 r1 kk u hu => ?_)) (fun u s' hu => by
            obtain ⟨z, H', I', rz, q⟩ := hu
            exact SlX.cmpback rz ⟨z, H', I', rz, q⟩) fun _ _ e => e
          · rw [q1]
            rw [q2] at hm
            exact PySem.W.cmp_K (op := op) (by omega) hF I.ok.mod.kin J hty hnf hm.at_ hm.fn call2
          · split at kk
            · simp only [RV] at hu
              exact ⟨_, hu, kk.here e1.sub r1⟩
            · exact kk.elim
        · exact h.elim
      · exact h.elim
  · obtain ⟨kb, hk, q⟩ := Good.opt h sb r
    exact cmp_ok hO.K hu I r sb hk rx ry ra rb ⟨kb, rfl, q⟩
/-- str(x) -/
theorem strT_ok (hO : ObjX X g T W k) (hc : X.calm = true) (I : Inv X pins σ H s) (r : Rel g φ G μ) (sb : Sub G H) (h : Good g W σ φ G H (strT T μ x) (kE g Q)) (rx : RV g φ G x v) (ra : RelV v a) : wpAny (model X.prog X.w) X.A (PySem.call (.type "str") [a]) (EP X pins σ Q) X.xe s := by
  unfold strT at h
  split at h
  · rename_i c vs
    split at h
    · rename_i f hf
      rw [hO.TP] at hf
      obtain ⟨Cl, hl, he, hm⟩ := meth_get hf
      have rx0 := rx
      simp only [RV] at rx
      obtain ⟨p, C, dx, fs, Cl', rfl, hcc, hg, _⟩ := rx
      obtain ⟨fa, m1, m2, _⟩ := hO.o.meth c C Cl _ f hcc hl he hm
      rw [hO.K] at m2
      cases (show a = Value.ref p from ra)
      obtain ⟨ox, od, J⟩ := inst_of I (sb _ _ hg)
      have hr2 : Room k X.A.in1.in1 := (show Room (k + 1) X.A.in1 from Room.in1 hO.hr2).in1
      refine PySem.W.kso_call hr2.units0 I.kIn J m2.at_ m2.fn (wpAny_mono (wpAny_call (met_call_at (us := [.ref p]) (vs := [.ref p]) (Q := fun z H1 => ∃ y, z = .str y ∧ Q z H1) (hO.met f fa m1) hr2 I.env0.in1.in1 hO.tk I r sb (rvs_cons rx0 rvs_nil) (.cons rfl .nil) (h.bind.imp fun z μ1 φ1 G1 H1 e1 r1 kk u hu => ?_))) (fun u s' hu => ?_) fun _ _ e => e)
      · split at kk
        · have hu0 := hu
          simp only [RV] at hu
          exact ⟨_, hu, kk.here e1.sub r1 _ hu0⟩
        · exact kk.elim
      · obtain ⟨z, H', I', rz, y, rfl, q⟩ := hu
        obtain ⟨t, e⟩ := (show ∃ t, u = Value.str y t from rz)
        subst e
        exact ⟨.str y, H', I', ⟨t, rfl⟩, q⟩
    · exact h.elim
  · exact bi_ok (W := W) hc hO.K I r sb h (rvs_cons rx rvs_nil) (.cons ra .nil)
/-- a value's text in an f-string -/
theorem fmtT_ok (hO : ObjX X g T W k) (I : Inv X pins σ H s) (r : Rel g φ G μ) (sb : Sub G H) {c : Nat} {vs : List MV} (h : Good g W σ φ G H (strT T μ (.obj c vs)) (kE g Q)) (rx : RV g φ G (.obj c vs) v) (ra : RelV v a) : wpAny (model X.prog X.w) X.A (formatField a Str.empty) (EP X pins σ Q) X.xe s := by
  unfold strT at h
  simp only at h
  split at h
  · rename_i f hf
    rw [hO.TP] at hf
    obtain ⟨Cl, hl, he, hm⟩ := meth_get hf
    have rx0 := rx
    simp only [RV] at rx
    obtain ⟨p, C, dx, fs, Cl', rfl, hcc, hg, _⟩ := rx
    obtain ⟨fa, m1, m2, _⟩ := hO.o.meth c C Cl _ f hcc hl he hm
    have n1 := hO.o.fmt c C Cl hcc hl he
    have n2 := hO.o.obj c C Cl hcc hl he
    rw [hO.K] at m2 n1 n2
    cases (show a = Value.ref p from ra)
    obtain ⟨ox, od, J⟩ := inst_of I (sb _ _ hg)
    have hr1 : Room (k + 1) X.A.in1 := Room.in1 hO.hr2
    have I' := I.tok (s.toks + 1)
    refine PySem.W.kfo_fieldS hr1.units0 I.kIn J n1 n2 m2.at_ m2.fn (wpAny_mono (wpAny_call (met_call_at (s := { s with toks := s.toks + 1 }) (us := [.ref p]) (vs := [.ref p]) (Q := fun z H1 => ∃ y, z = .str y ∧ Q z H1) (hO.met f fa m1) (hr1.mono (by omega)) I'.env0.in1 hO.tk I' r sb (rvs_cons rx0 rvs_nil) (.cons rfl .nil) (h.bind.imp fun z μ1 φ1 G1 H1 e1 r1 kk u hu => ?_))) (fun u s' hu => ?_) fun _ _ e => e)
    · split at kk
      · have hu0 := hu
        simp only [RV] at hu
        exact ⟨_, hu, kk.here e1.sub r1 _ hu0⟩
      · exact kk.elim
    · obtain ⟨z, H', I', rz, y, rfl, q⟩ := hu
      obtain ⟨t, e⟩ := (show ∃ t, u = Value.str y t from rz)
      subst e
      exact ⟨.str y, H', I', ⟨t, rfl⟩, q⟩
  · exact h.elim
end
end Mch

/-! ## Expressions with objects -/
namespace Mch
open PySem PySem.Spec PyProof.Rows L2
section
variable {X : Cx} {g : Glob} {T : Tab} {W : WX} {md : Md} {a b c : PySem.Expr} {A B C : E} {pos : Pos} {k : Nat}
theorem se_obin {op : Operator} (hO : ObjX X g T W k) (hn : ∀ c, methOf g.P c "-" = none) (ha : PE X a (tE g T W md A)) (hb : PE X b (tE g T W md B)) : PE X (.BinOp a op b pos) (tE g T W md (.obin op A B)) := by
  refine ⟨fun pins s σ H Q I h => ?_⟩
  obtain ⟨φ, G, μ, σm, sb, r, e, h⟩ := h
  simp only [evE] at h
  refine wpAny_BinOp (bin ha hb (R := fun x y H2 => ∃ φ G μ v u, Sub G H2 ∧ Rel g φ G μ ∧ RV g φ G v x ∧ RV g φ G u y ∧ Good g W σ φ G H2 (binT T μ op v u) (kE g Q)) I ⟨φ, G, μ, σm, sb, r, e, h.bind.imp fun v μ1 φ1 G1 H1 e1 r1 k w hw =>
    ⟨φ1, G1, μ1, σm, e1.sub, r1, e.ext e1, k.bind.imp fun u μ2 φ2 G2 H2 e2 r2 k w' hw' => ⟨φ2, G2, μ2, v, u, e2.sub, r2, hw.ext e2, hw', k⟩⟩⟩ fun v u s2 x y H2 I2 rx ry q => ?_)
  obtain ⟨φ2, G2, μ2, v', u', sb2, r2, rv, ru, q⟩ := q
  exact binT_ok hO hn I2 r2 sb2 q rv ru rx ry
theorem se_oneg (hO : ObjX X g T W k) (ha : PE X a (tE g T W md A)) : PE X (.UnaryOp .USub a pos) (tE g T W md (.oneg A)) := by
  refine ⟨fun pins s σ H Q I h => ?_⟩
  obtain ⟨φ, G, μ, σm, sb, r, e, h⟩ := h
  simp only [evE] at h
  have ho : ∀ (pins : List (Addr × Obj)) (s : Shared) (H : Hp) (x : V) (v : Value), Inv X pins σ H s → RelV x v → (∃ φ G μ z, Sub G H ∧ Rel g φ G μ ∧ RV g φ G z x ∧ Good g W σ φ G H (negT T μ z) (kE g Q)) → wpAny (model X.prog X.w) X.A (unaryOp .USub v) (EP X pins σ Q) X.xe s := fun pins s H x v I rx q => by
    obtain ⟨φ2, G2, μ2, z, sb2, r2, rz, q⟩ := q
    exact negT_ok hO I r2 sb2 q rz rx
  have hE : tE g T W md A σ H (fun x H1 => ∃ φ G μ z, Sub G H1 ∧ Rel g φ G μ ∧ RV g φ G z x ∧ Good g W σ φ G H1 (negT T μ z) (kE g Q)) := ⟨φ, G, μ, σm, sb, r, e, h.bind.imp fun v μ1 φ1 G1 H1 e1 r1 k w hw => ⟨φ1, G1, μ1, v, e1.sub, r1, hw, k⟩⟩
  exact UnaryOp_ (thn (ha.run pins s σ H _ I hE) fun u s1 ⟨x, H1, I1, rx, q⟩ => ho pins s1 H1 x u I1 rx q)
/-- two values compared, whatever stands behind -/
def rO (g : Glob) (T : Tab) (W : WX) (σ : L2.St) (op : CmpOp) (Q : Bool → Hp → Prop) : V → V → Hp → Prop := fun x y H2 => ∃ φ G μ v u, Sub G H2 ∧ Rel g φ G μ ∧ RV g φ G v x ∧ RV g φ G u y ∧ Good g W σ φ G H2 (cmpT T μ op v u) fun kb _ _ _ H1 => Q kb H1
theorem se_ocmp {op : CmpOp} (hO : ObjX X g T W k) (hu : X.A.units + 64 < cLine) (hm : notSet b = true) (ha : PE X a (tE g T W md A)) (hb : PE X b (tE g T W md B)) : PE X (.Compare a [op] [b] pos) (tE g T W md (.ocmp op A B)) := by
  refine ⟨fun pins s σ H Q I h => ?_⟩
  obtain ⟨φ, G, μ, σm, sb, r, e, h⟩ := h
  simp only [evE] at h
  refine wpAny_Compare1 (bin ha hb (R := rO g T W σ op fun kb H1 => Q (.bl kb) H1) I ⟨φ, G, μ, σm, sb, r, e, h.bind.imp fun v μ1 φ1 G1 H1 e1 r1 k w hw =>
    ⟨φ1, G1, μ1, σm, e1.sub, r1, e.ext e1, k.bind.imp fun u μ2 φ2 G2 H2 e2 r2 k w' hw' => ⟨φ2, G2, μ2, v, u, e2.sub, r2, hw.ext e2, hw', k.bind.imp fun kb μ3 φ3 G3 H3 e3 r3 k => k.here e3.sub r3 _ (by simp only [RV])⟩⟩⟩ fun v u s2 x y H2 I2 rx ry q => ?_) (noSet_of hm)
  obtain ⟨φ2, G2, μ2, v', u', sb2, r2, rv, ru, q⟩ := q
  exact wpAny_mono (cmpT_ok hO hu I2 r2 sb2 q rv ru rx ry) (fun z s' hz => by
    obtain ⟨z', H', I', rz, kb, rfl, q⟩ := hz
    exact ⟨_, H', I', rz, q⟩) fun _ _ e => e
theorem st_ocmp {op : CmpOp} (hO : ObjX X g T W k) (hu : X.A.units + 64 < cLine) (hm : notSet b = true) (ha : PE X a (tE g T W md A)) (hb : PE X b (tE g T W md B)) : PT X (.Compare a [op] [b] pos) (tT g T W md (.ocmp op A B)) := by
  refine ⟨fun pins s σ H Q I h => ?_⟩
  obtain ⟨φ, G, μ, σm, sb, r, e, h⟩ := h
  have h : Good g W σ φ G H ((evE T A σm μ).bind fun x μ => (evE T B σm μ).bind fun y μ => cmpT T μ op x y) fun kb _ _ _ H1 => Q kb H1 := by
    simp only [evE] at h
    cases e1 : evE T A σm μ with
    | no => rw [e1] at h; exact h
    | exc x μ1 => rw [e1] at h; exact h
    | ok x μ1 =>
      rw [e1] at h
      simp only [R.bind] at h ⊢
      cases e2 : evE T B σm μ1 with
      | no => rw [e2] at h; exact h
      | exc x μ1 => rw [e2] at h; exact h
      | ok y μ2 =>
        rw [e2] at h
        simp only at h ⊢
        cases e3 : cmpT T μ2 op x y with
        | no => rw [e3] at h; exact h
        | exc x μ1 => rw [e3] at h; exact h
        | ok kb μ3 => rw [e3] at h; exact h
  refine wpAny_isTrue_Compare1 (thn (ha.run pins s σ H (fun x H1 => ∃ φ G μ v, Sub G H1 ∧ Rel g φ G μ ∧ RV g φ G v x ∧ RSt g φ G H1 md σm σ ∧ Good g W σ φ G H1 ((evE T B σm μ).bind fun y μ => cmpT T μ op v y) fun kb _ _ _ H1 => Q kb H1) I ⟨φ, G, μ, σm, sb, r, e, h.bind.imp fun v μ1 φ1 G1 H1 e1 r1 k w hw => ⟨φ1, G1, μ1, v, e1.sub, r1, hw, e.ext e1, k⟩⟩) fun v s1 ⟨x, H1, I1, r1, q1⟩ => ?_) (noSet_of hm)
  obtain ⟨φ1, G1, μ1, x', sb1, rl1, rx, en1, q1⟩ := q1
  refine thn (hb.run pins s1 σ H1 (rO g T W σ op Q |> fun f y H2 => f x y H2) I1 ⟨φ1, G1, μ1, σm, sb1, rl1, en1, q1.bind.imp fun u μ2 φ2 G2 H2 e2 r2 k w' hw' => ⟨φ2, G2, μ2, x', u, e2.sub, r2, rx.ext e2, hw', k⟩⟩) fun u s2 ⟨y, H2, I2, r2, q2⟩ => ?_
  obtain ⟨φ2, G2, μ2, v', u', sb2, rl2, rv, ru, q2⟩ := q2
  refine thn (cmpT_ok hO hu I2 rl2 sb2 q2 rv ru r1 r2) fun c s3 ⟨z, H3, I3, r3, k, e, q3⟩ => ?_
  subst e
  cases r3
  exact wpAny_truthy_bool ⟨H3, I3, q3⟩
/-! ### methods -/
theorem few_ok {es : List PySem.Expr} {env : PySem.Env} (hp : es.all plain = true) (hl : es.length < 30) : methodCallForm (es.length + ([] : List Keyword).length) (backTo pos (starEach es env)) (backToKw pos (keywordEach [] env)) = true := by
  cases es with
  | nil => rfl
  | cons e es => exact few_of hp hl
theorem meth_form {o : PySem.Expr} {m : Str} {apos : Pos} {es : List PySem.Expr} {env : PySem.Env} (hb : notCall0 o = true) (hline : (apos.endLine == pos.line) = true) (hp : es.all plain = true) (hl : es.length < 30) : eval (.Call (.Attribute o m apos) es [] pos) env = (do
      let ov ← eval o env
      standAt apos.atName
      let (f, first) ← holding [ov] (getMethod ov m (do return (← importBound o env).getD true))
      callWith pos f first (backTo pos (starEach es env)) (backToKw pos (keywordEach [] env))) := by
  show (do
    let ov ← attributeBase o m env (eval o env)
    standAt apos.atName
    methodCall o m apos pos env ov (es.length + ([] : List Keyword).length) (backTo pos (starEach es env)) (backToKw pos (keywordEach [] env))) = _
  rw [attr_base hb]
  unfold methodCall
  rw [few_ok hp hl]
  unfold calleeOf methodCallPos
  simp only [if_true, hline, Bool.not_true, Bool.false_or, pure_bind]
theorem lookup_none {fs : List (Str × V)} {m : Str} (h : (fs.map (·.1)).contains m = false) : fs.lookup m = none := by
  induction fs with
  | nil => rfl
  | cons p fs ih =>
    rw [List.map_cons, List.contains_cons, Bool.or_eq_false_iff] at h
    rw [List.lookup_cons, h.1]
    exact ih h.2
theorem se_omth {o : PySem.Expr} {m : Str} {apos : Pos} {es : List PySem.Expr} {O : E} {As : List E} (hO : ObjX X g T W k) (hb : notCall0 o = true) (hline : (apos.endLine == pos.line) = true) (hp : es.all plain = true) (hl : es.length < 30) (hlen : es.length = As.length) (ho : PE X o (tE g T W md O)) (ha : PA X es (tEs g T W md As)) :
    PE X (.Call (.Attribute o m apos) es [] pos) (tE g T W md (.omth m O As)) := by
  refine ⟨fun pins s σ H Q I h => ?_⟩
  obtain ⟨φ, G, μ, σm, sb, r, e, h⟩ := h
  simp only [evE] at h
  refine PySem.W.methodCall_KW (thn (ho.run pins s σ H (fun x H1 => ∃ φ G μ z, Sub G H1 ∧ Rel g φ G μ ∧ RV g φ G z x ∧ RSt g φ G H1 md σm σ ∧ Good g W σ φ G H1 (match z with
    | .obj c vs => (match methOf T.P c m with
      | some f => (evEs T As σm μ).bind fun xs μ => T.call f (.obj c vs :: xs) μ
      | none => .no)
    | _ => .no) (kE g Q)) I ⟨φ, G, μ, σm, sb, r, e, h.bind.imp fun v μ1 φ1 G1 H1 e1 r1 k w hw => ⟨φ1, G1, μ1, v, e1.sub, r1, hw, e.ext e1, k⟩⟩) fun u s1 ⟨x, H1, I1, rx, q⟩ => ?_) (meth_form hb hline hp hl)
  obtain ⟨φ1, G1, μ1, z, sb1, r1, rz, e1, q⟩ := q
  split at q
  · rename_i c vs
    split at q
    · rename_i f hf
      rw [hO.TP] at hf
      obtain ⟨Cl, hcl, he, hm⟩ := meth_get hf
      have rz0 := rz
      simp only [RV] at rz
      obtain ⟨p, C, dx, fs, Cl', rfl, hc, hg, hcl', hfn, _⟩ := rz
      rw [hcl] at hcl'
      cases hcl'
      obtain ⟨c1, c2, c3⟩ := hO.o.cls c C Cl hc hcl he
      obtain ⟨fa, m1, m2, m3⟩ := hO.o.meth c C Cl m f hc hcl he hm
      rw [hO.K] at c1 m2
      cases (show u = Value.ref p from rx)
      refine getmeth_ok I1 (sb1 _ _ hg) c1 m2 (lookup_none (by rw [hfn]; exact m3)) ?_
      have fin : ∀ {pins : List (Addr × Obj)} {s2 : Shared} {us : List Value} {ws : List V} {H2 : Hp}, Inv X pins σ H2 s2 → Vals ws us → (∃ φ G μ xs, Sub G H2 ∧ Rel g φ G μ ∧ RV g φ G (.obj c vs) (.ref p) ∧ RVs g φ G xs ws ∧ Good g W σ φ G H2 (T.call f (.obj c vs :: xs) μ) (kE g Q)) → wpAny (model X.prog X.w) X.A (PySem.call (.ref fa) (.ref p :: us)) (EP X pins σ Q) X.xe s2 := fun I2 rw' q => by
        obtain ⟨φ2, G2, μ2, xs, sb2, r2, rz2, rxs, q⟩ := q
        exact met_call (vs := .ref p :: _) (hO.met f fa m1) hO.hr hO.tk I2 r2 sb2 (rvs_cons rz2 rxs) (.cons rfl rw') q
      cases es with
      | nil =>
        have e0 : As = [] := List.length_eq_zero_iff.mp hlen.symm
        subst e0
        simp only [evEs, R.bind] at q
        exact PySem.W.callWith_K0 (first := [.ref p]) I1.kIn m2.kp (fin (us := []) I1 .nil ⟨φ1, G1, μ1, [], sb1, r1, rz0, rvs_nil, q⟩)
      | cons e0 es =>
        rw [List.all_cons, Bool.and_eq_true] at hp
        refine PySem.W.callWith_K (first := [.ref p]) (h₀ := X.base) I.ok.mod.kin m2.kp (thn (ha.run pos pins s1 σ H1 (fun ws H2 => ∃ φ G μ xs, Sub G H2 ∧ Rel g φ G μ ∧ RV g φ G (.obj c vs) (.ref p) ∧ RVs g φ G xs ws ∧ Good g W σ φ G H2 (T.call f (.obj c vs :: xs) μ) (kE g Q)) I1 ⟨φ1, G1, μ1, σm, sb1, r1, e1, q.bind.imp fun xs μ2 φ2 G2 H2 e2 r2 k ws hws => ⟨φ2, G2, μ2, xs, e2.sub, r2, rz0.ext e2, hws, k⟩⟩) fun us s2 ⟨ws, H2, I2, rr, q2⟩ => ⟨I2.kIn, fin I2 rr q2⟩) (star_cons hp.1) (star_any hp.2)
    · exact q.elim
  · exact q.elim
/-! ### f-strings -/
theorem se_fmt (hO : ObjX X g T W k) (ha : PE X a (tE g T W md A)) : PE X (.FormattedValue a (-1) none pos) (tE g T W md (.fmt A)) := by
  refine ⟨fun pins s σ H Q I h => ?_⟩
  obtain ⟨φ, G, μ, σm, sb, r, e, h⟩ := h
  simp only [evE] at h
  refine wpAny_FormattedValue_plain (thn (ha.run pins s σ H (fun x H1 => ∃ φ G μ z, Sub G H1 ∧ Rel g φ G μ ∧ RV g φ G z x ∧ Good g W σ φ G H1 (fmtT T μ z) (kE g Q)) I ⟨φ, G, μ, σm, sb, r, e, h.bind.imp fun v μ1 φ1 G1 H1 e1 r1 k w hw => ⟨φ1, G1, μ1, v, e1.sub, r1, hw, k⟩⟩) fun u s1 ⟨x, H1, I1, rx, q⟩ => ?_)
  obtain ⟨φ1, G1, μ1, z, sb1, r1, rz, q⟩ := q
  unfold fmtT at q
  split at q
  · exact fmtT_ok hO I1 r1 sb1 q rz rx
  · unfold fmtM at q
    split at q
    · split at q
      · rename_i hz
        simp only [RV] at rz
        subst rz
        obtain ⟨t, rfl⟩ := (show ∃ t, u = Value.str _ t from rx)
        exact wpAny_formatField_str ⟨.str _, H1, I1, ⟨t, rfl⟩, q.here sb1 r1 _ (by simp only [RV])⟩ ⟨.str _, H1, I1.tok _, ⟨_, rfl⟩, q.here sb1 r1 _ (by simp only [RV])⟩ hz
      · exact q.elim
    · split at q
      · rename_i hz
        simp only [RV] at rz
        subst rz
        obtain ⟨t, rfl⟩ := (show ∃ t, u = Value.int _ t from rx)
        exact wpAny_formatField_int hz ⟨.str (toString _), H1, I1.tok _, ⟨_, rfl⟩, q.here sb1 r1 _ (by simp only [RV])⟩
      · exact q.elim
    · exact q.elim
/-! ### dicts of the top -/
/-- at D: a dict of ints by ints -/
def dcB (K : PySem.W.Frag) (D : Addr) (kvs : List (Int × Int)) : Bool := match K.lookup D with
  | some ⟨.type t, dd, .dict es _, sl⟩ => decide (t = "dict") && (dd.isNone && (decide (sl = #[]) && ((es.all fun e => match e.key with
    | .int i _ => decide (e.hash = hashInt i)
    | _ => false) && kvs.all fun p => match findBy Value.isInt es p.1 with
    | some (.int j _) => decide (j = p.2)
    | _ => false)))
  | _ => false
theorem dc_mem {i j : Int} : ∀ {kvs : List (Int × Int)}, kvs.lookup i = some j → (i, j) ∈ kvs
  | [], h => by cases h
  | (a, b) :: r, h => by
    rw [List.lookup_cons] at h
    split at h
    · rename_i e
      cases h
      rw [eq_of_beq e]
      exact List.mem_cons_self ..
    · exact List.mem_cons_of_mem _ (dc_mem h)
theorem dc_get {K : PySem.W.Frag} {D : Addr} {kvs : List (Int × Int)} {h : Heap} {P : Program} {w : World} (hd : dcB K D kvs = true) (hi : K.In h) {i j : Int} (hl : kvs.lookup i = some j) : ∃ f t, h.MapOf (intKind P w) D f ∧ f i = some (.int j t) := by
  unfold dcB at hd
  split at hd
  · rename_i t dd es ep sl hk
    simp only [Bool.and_eq_true, decide_eq_true_eq] at hd
    obtain ⟨rfl, h1, rfl, h2, h3⟩ := hd
    have e0 := Option.isNone_iff_eq_none.mp h1
    subst e0
    have hm := List.all_eq_true.mp h3 (i, j) (dc_mem hl)
    simp only at hm
    split at hm
    · rename_i j' t hf
      have e1 := of_decide_eq_true hm
      subst e1
      refine ⟨fun k => findBy Value.isInt es k, t, ⟨_, es, ep, hi _ _ hk, ⟨rfl, rfl, rfl⟩, rfl, fun e he => ?_, fun k => rfl⟩, hf⟩
      have := (Array.all_eq_true_iff_forall_mem.mp h2) e he
      split at this
      · rename_i i' t' hk'
        refine ⟨i', ?_, of_decide_eq_true this⟩
        show Value.isInt i' e.key = true
        rw [hk']
        simp [Value.isInt]
      · cases this
    · cases hm
  · cases hd
theorem noSl_of {e : PySem.Expr} (h : notSlice e = true) : NoSl e := by
  intro ov iv
  cases e <;> first | rfl | cases h
theorem se_cdx {x : Str} {p : Pos} {D : Addr} {kvs : List (Int × Int)} {j : Nat} (hT : T.P = g.P) (hg : Gl X x) (hm : X.mg x = some (.ref D)) (hdb : (x == ("__debug__" : Str)) = false) (hd : dcB X.K D kvs = true) (hl : g.P.dcs[j]? = some kvs) (hn : notSlice b = true) (hb : PE X b (tE g T W md B)) :
    PE X (.Subscript (.Name x p) b pos) (tE g T W md (.cdx j B)) := by
  refine ⟨fun pins s σ H Q I h => ?_⟩
  obtain ⟨φ, G, μ, σm, sb, r, e, h⟩ := h
  simp only [evE] at h
  refine subD_of PySem.F.slot_dict_getitem.lookup (noSl_of hn) (ld_glob I hg hm ?_ hdb)
  refine thn (hb.run pins s σ H (fun y H1 => ∃ i z, y = .int i ∧ kvs.lookup i = some z ∧ Q (.int z) H1) I ⟨φ, G, μ, σm, sb, r, e, h.bind.imp fun v μ1 φ1 G1 H1 e1 r1 k w hw => ?_⟩) fun u s1 ⟨y, H1, I1, ry, i, z, ey, hz, q⟩ => ?_
  · split at k
    · rename_i i
      simp only [RV] at hw
      obtain ⟨z, hz, q⟩ := Good.opt k e1.sub r1
      rw [hT, hl, Option.bind_some] at hz
      obtain ⟨z', h1, rfl⟩ := Option.map_eq_some_iff.mp hz
      exact ⟨i, z', hw, h1, q _ (by simp only [RV])⟩
    · exact k.elim
  · subst ey
    obtain ⟨t, rfl⟩ := (show ∃ t, u = Value.int i t from ry)
    obtain ⟨f, t', hm', hf⟩ := dc_get (P := X.prog) (w := X.w) hd I1.kIn hz
    refine ⟨hm'.typeIs, wpAny_getItem_of (by show Value.isInt i (.int i t) = true; simp [Value.isInt]) hm' hf ?_⟩
    exact ⟨.int z, H1, I1.tok _, ⟨_, rfl⟩, q⟩
theorem fstr_read {As : List E} : ∀ {acc : Str} {σ : L2.St} {H : Hp} {Q : Str → Hp → Prop}, (∃ φ G μ σm, Sub G H ∧ Rel g φ G μ ∧ RSt g φ G H md σm σ ∧ Good g W σ φ G H (evF T As acc σm μ) fun y _ _ _ H1 => Q y H1) → tJs (As.map fun A => tE g T W md A) acc σ H Q := by
  induction As with
  | nil =>
    rintro acc σ H Q ⟨φ, G, μ, σm, sb, r, e, h⟩
    simp only [evF] at h
    exact h.here sb r
  | cons A As ih =>
    rintro acc σ H Q ⟨φ, G, μ, σm, sb, r, e, h⟩
    simp only [evF] at h
    refine ⟨φ, G, μ, σm, sb, r, e, h.bind.imp fun v μ1 φ1 G1 H1 e1 r1 k w hw => ?_⟩
    split at k
    · split at k
      · rename_i hz
        simp only [RV] at hw
        exact ⟨_, hw, hz, ih ⟨φ1, G1, μ1, σm, e1.sub, r1, e.ext e1, k⟩⟩
      · exact k.elim
    · exact k.elim
theorem se_fstr {v1 v2 : PySem.Expr} {rest : List PySem.Expr} {As : List E} (h : PJ X (v1 :: v2 :: rest) (As.map fun A => tE g T W md A)) : PE X (.JoinedStr (v1 :: v2 :: rest) pos) (tE g T W md (.fstr As)) := by
  refine ⟨fun pins s σ H Q I hh => (pe_joined h).run pins s σ H Q I (fstr_read ?_)⟩
  obtain ⟨φ, G, μ, σm, sb, r, e, hh⟩ := hh
  simp only [evE] at hh
  exact ⟨φ, G, μ, σm, sb, r, e, hh.bind.imp fun y μ1 φ1 G1 H1 e1 r1 k => k.here e1.sub r1 _ (by simp only [RV])⟩
theorem se_ostr {p : Pos} (hO : ObjX X g T W k) (hc : X.calm = true) (hg : Gl X "str") (hm : X.mg "str" = none) (hp : plain a = true) (ha : PE X a (tE g T W md A)) : PE X (.Call (.Name "str" p) [a] [] pos) (tE g T W md (.ostr A)) := by
  refine ⟨fun pins s σ H Q I h => ?_⟩
  obtain ⟨φ, G, μ, σm, sb, r, e, h⟩ := h
  simp only [evE] at h
  refine wpAny_Call_Name_kw (ld_blt I hg hm (u := .type "str") (by decide +kernel) ?_ (by decide) (by decide))
  refine PyProof.Rows.callWith_type1 (thn ((sa_cons hp ha sa_nil).run pos pins s σ H (fun vs H1 => ∃ φ G μ z v, vs = [v] ∧ Sub G H1 ∧ Rel g φ G μ ∧ RV g φ G z v ∧ Good g W σ φ G H1 (strT T μ z) (kE g Q)) I ⟨φ, G, μ, σm, sb, r, e, ?_⟩) fun us s1 ⟨vs, H1, I1, rr, q⟩ => ?_) (star_cons hp) (star_any (by simp [hp]))
  · simp only [evEs]
    cases e0 : evE T A σm μ with
    | no => rw [e0] at h; exact h.elim
    | exc x μ1 => rw [e0] at h; exact h
    | ok x μ1 =>
      rw [e0] at h
      intro φ1 G1 H1 x1 r1 ws hws
      obtain ⟨v, rfl, hv⟩ := hws.one
      exact ⟨φ1, G1, μ1, x, v, rfl, x1.sub, r1, hv, Good.ext (r := strT T μ1 x) h x1⟩
  · obtain ⟨φ1, G1, μ1, z, v, rfl, sb1, r1, rz, q⟩ := q
    obtain ⟨u, rfl, ru⟩ := rr.one
    exact strT_ok hO hc I1 r1 sb1 q rz ru
end
end Mch

/-! ## Targets, walks, comprehensions -/
namespace Mch
open PySem PySem.Spec PyProof.Rows L2
/-! ### storing into names -/
mutual
def tgSlots : E → List Nat
  | .var i => [i]
  | .tup ts => tgSlotss ts
  | _ => []
def tgSlotss : List E → List Nat
  | [] => []
  | t :: ts => tgSlots t ++ tgSlotss ts
end
/-- the slots is alone are stored -/
def Sto (is : List Nat) (σ σ' : L2.St) : Prop := σ'.length = σ.length ∧ ∀ i, i ∉ is → σ'[i]? = σ[i]?
theorem Sto.refl (σ : L2.St) : Sto [] σ σ := ⟨rfl, fun _ _ => rfl⟩
theorem Sto.trans {is js : List Nat} {σ σ1 σ2 : L2.St} (a : Sto is σ σ1) (b : Sto js σ1 σ2) : Sto (is ++ js) σ σ2 :=
  ⟨b.1.trans a.1, fun i h => by
    rw [List.mem_append, not_or] at h
    exact (b.2 i h.2).trans (a.2 i h.1)⟩
theorem Sto.one (σ : L2.St) (i : Nat) (v : V) : Sto [i] σ (σ.set i (some v)) :=
  ⟨by simp, fun j h => by
    rw [List.getElem?_set_ne]
    intro e
    exact h (by simp [e])⟩
theorem wipe_get : ∀ (vs : List Nat) (σ : L2.St) (j : Nat), (wipe σ vs)[j]? = if j ∈ vs ∧ j < σ.length then some none else σ[j]?
  | [], σ, j => by simp [wipe]
  | v :: vs, σ, j => by
    show ((wipe σ vs).set v none)[j]? = _
    rw [List.getElem?_set, wipe_length, wipe_get vs σ j]
    by_cases e : v = j
    · subst e
      by_cases hl : v < σ.length
      · simp [hl]
      · simp only [if_true, hl, if_false]
        rw [if_neg (by simp [hl])]
        exact (List.getElem?_eq_none (by omega)).symm
    · rw [if_neg e]
      have : (j ∈ v :: vs) ↔ j ∈ vs := by
        rw [List.mem_cons]
        constructor
        · rintro (h | h)
          · exact absurd h.symm e
          · exact h
        · exact .inr
      simp only [this]
theorem Sto.wipe {is vs : List Nat} {σ σ' : L2.St} (h : Sto is σ σ') (hs : ∀ i ∈ is, i ∈ vs) : L2.wipe σ' vs = L2.wipe σ vs := by
  apply List.ext_getElem?
  intro j
  rw [wipe_get, wipe_get, h.1]
  by_cases hj : j ∈ vs ∧ j < σ.length
  · rw [if_pos hj, if_pos hj]
  · rw [if_neg hj, if_neg hj]
    by_cases hl : j < σ.length
    · exact h.2 j fun z => hj ⟨hs j z, hl⟩
    · rw [List.getElem?_eq_none (show σ'.length ≤ j by rw [h.1]; omega), List.getElem?_eq_none (show σ.length ≤ j by omega)]
theorem wipe_wipe (vs : List Nat) (σ : L2.St) : L2.wipe (L2.wipe σ vs) vs = L2.wipe σ vs := by
  apply List.ext_getElem?
  intro j
  rw [wipe_get, wipe_get, wipe_length]
  split <;> rfl
theorem wipeM_length : ∀ (vs : List Nat) (σ : Env), (wipeM σ vs).length = σ.length
  | [], σ => rfl
  | v :: vs, σ => by
    show ((wipeM σ vs).set v none).length = _
    rw [List.length_set, wipeM_length]
theorem wipeM_some : ∀ {vs : List Nat} {σ : Env} {j : Nat} {v : MV}, (wipeM σ vs)[j]? = some (some v) → σ[j]? = some (some v) ∧ j ∉ vs
  | [], σ, j, v, h => ⟨h, by simp⟩
  | u :: vs, σ, j, v, h => by
    have h : ((wipeM σ vs).set u none)[j]? = some (some v) := h
    rw [List.getElem?_set] at h
    split at h
    · split at h
      · cases h
      · cases h
    · rename_i hne
      obtain ⟨h1, h2⟩ := wipeM_some h
      exact ⟨h1, by
        rw [List.mem_cons, not_or]
        exact ⟨fun e => hne e.symm, h2⟩⟩
theorem REnv.wipe {g : Glob} {φ : List Addr} {G : Hp} {md : Md} {σm : Env} {σ : L2.St} (h : REnv g φ G md σm σ) (vs : List Nat) : REnv g φ G md (wipeM σm vs) (L2.wipe σ vs) := by
  refine ⟨by rw [wipeM_length, wipe_length, h.1], fun i v e1 e2 => ?_⟩
  obtain ⟨e3, e4⟩ := wipeM_some e1
  obtain ⟨w, hw, r⟩ := h.2 i v e3 e2
  exact ⟨w, by rw [wipe_get, if_neg (fun z => e4 z.1)]; exact hw, r⟩
/-- a target of names -/
def gB (g : Glob) (md : Md) (tg : E) : TG := fun v σ H Q => ∃ φ G x σm σm', Sub G H ∧ RV g φ G x v ∧ REnv g φ G md σm σ ∧ bindT tg x σm = some σm' ∧ ∀ σ', REnv g φ G md σm' σ' → Sto (tgSlots tg) σ σ' → Q σ' H
def gBs (g : Glob) (md : Md) (tgs : List E) : TGs := fun vs σ H Q => ∃ φ G xs σm σm', Sub G H ∧ RVs g φ G xs vs ∧ REnv g φ G md σm σ ∧ bindT.go tgs xs σm = some σm' ∧ ∀ σ', REnv g φ G md σm' σ' → Sto (tgSlotss tgs) σ σ' → Q σ' H
theorem assign_cons {t : PySem.Expr} {ts : List PySem.Expr} {env : PySem.Env} (h : plain t = true) : assignEach (t :: ts) env = (false, assign t env) :: assignEach ts env := by
  cases t <;> first | rfl | cases h
theorem assign_len {env : PySem.Env} : ∀ {ts : List PySem.Expr}, ts.all plain = true → (assignEach ts env).length = ts.length ∧ (assignEach ts env).findIdx? (·.1) = none
  | [], _ => ⟨rfl, rfl⟩
  | t :: ts, h => by
    rw [List.all_cons, Bool.and_eq_true] at h
    obtain ⟨h1, h2⟩ := assign_len (env := env) h.2
    rw [assign_cons h.1]
    exact ⟨by simp [h1], by rw [List.findIdx?_cons, h2]; rfl⟩
section
variable {X : Cx} {g : Glob} {T : Tab} {W : WX} {md : Md} {pos : Pos}
theorem sg_var {i : Nat} {x : Str} (hN : X.N.Nodup) (hi : X.N[i]? = some x) (hx : Loc X.env.scope x) (hf : X.fn x = true ∨ X.env.scope.names.lookup x = some .local) : PG X (.Name x pos) (gB g md (.var i)) := by
  refine ⟨fun pins s σ H v u Q I r h => (pg_name hN hi hx hf).run pins s σ H v u Q I r ?_⟩
  obtain ⟨φ, G, x, σm, σm', sb, rv, e, hb, k⟩ := h
  simp only [bindT, Option.some.injEq] at hb
  subst hb
  exact k _ (e.set rv) (Sto.one _ _ _)
theorem sgs_nil : PGs X [] (gBs g md []) := by
  refine ⟨fun pins s σ H vs us Q I r h => pgs_nil.run pins s σ H vs us Q I r ?_⟩
  obtain ⟨φ, G, xs, σm, σm', sb, rv, e, hb, k⟩ := h
  cases xs with
  | nil =>
    simp only [RVs] at rv
    simp only [bindT.go, Option.some.injEq] at hb
    subst hb
    exact ⟨rv, k _ e (Sto.refl _)⟩
  | cons x xs => simp only [bindT.go] at hb; cases hb
theorem sgs_cons {t : PySem.Expr} {ts : List PySem.Expr} {A : E} {As : List E} (hp : plain t = true) (h1 : PG X t (gB g md A)) (h2 : PGs X ts (gBs g md As)) : PGs X (t :: ts) (gBs g md (A :: As)) := by
  refine ⟨fun pins s σ H vs us Q I r h => (pgs_cons h1 h2 (by rw [assign_cons hp]; rfl)).run pins s σ H vs us Q I r ?_⟩
  obtain ⟨φ, G, xs, σm, σm', sb, rv, e, hb, k⟩ := h
  cases xs with
  | nil => simp only [bindT.go] at hb; cases hb
  | cons x xs =>
    simp only [RVs] at rv
    obtain ⟨v, vr, rfl, hv, hr⟩ := rv
    simp only [bindT.go] at hb
    obtain ⟨σ1, hb1, hb2⟩ := Option.bind_eq_some_iff.mp hb
    exact ⟨v, vr, rfl, φ, G, x, σm, σ1, sb, hv, e, hb1, fun σ' e' st => ⟨φ, G, xs, σ1, σm', sb, hr, e', hb2, fun σ2 e2 st2 => k σ2 e2 (by
      simp only [tgSlotss]
      exact st.trans st2)⟩⟩
theorem sg_tup {ts : List PySem.Expr} {As : List E} {j : Nat} (hc : X.calm = true) (hK : g.K = X.K) (hp : ts.all plain = true) (hl : ts.length = As.length) (h : PGs X ts (gBs g md As)) : PG X (.Tuple ts j pos) (gB g md (.tup As)) := by
  obtain ⟨a1, a2⟩ := assign_len (env := X.env) hp
  refine ⟨fun pins s σ H v u Q I r hh => (pg_tup hc h rfl a2).run pins s σ H v u Q I r ?_⟩
  obtain ⟨φ, G, x, σm, σm', sb, rv, e, hb, k⟩ := hh
  simp only [bindT] at hb
  split at hb
  · rename_i xs
    split at hb
    · rename_i hlen
      simp only [RV] at rv
      obtain ⟨a, vs, rfl, hq, hr⟩ := rv
      rw [hK] at hq
      exact ⟨a, vs, rfl, sqT_sub sb hq, by rw [a1, hl, ← hr.len, hlen], φ, G, xs, σm, σm', sb, hr, e, hb, fun σ' e' st => k σ' e' (by simp only [tgSlots]; exact st)⟩
    · cases hb
  · cases hb
/-! ### walks -/
def ItR (g : Glob) (φ : List Addr) (G : Hp) : MV → It → Prop
  | .tup xs, J => ∃ a vs, J = Itt g.K a ∧ SqT g.K G a vs ∧ RVs g φ G xs vs
  | .ref i, J => ∃ a, J = Itl g.K a ∧ φ[i]? = some a
  | .rng lo n st, J => st = 1 ∧ J = Itr lo n
  | _, _ => False
theorem ItR.ext {φ φ1 : List Addr} {G G1 H H1 : Hp} {ex : Option Addr} {J : MV} {J' : It} (h : ItR g φ G J J') (e : Ext ex φ G H φ1 G1 H1) : ItR g φ1 G1 J J' := by
  cases J with
  | tup xs =>
    obtain ⟨a, vs, h1, h2, h3⟩ := h
    exact ⟨a, vs, h1, sqT_keep e.keep h2, h3.ext e⟩
  | ref i =>
    obtain ⟨a, h1, h2⟩ := h
    exact ⟨a, h1, pre_get e.pre h2⟩
  | rng lo n st => exact h
  | _ => exact h.elim
theorem it_stop {φ : List Addr} {G H : Hp} {μ : Mem} {J : MV} {J' : It} {i : Nat} (r : Rel g φ G μ) (sb : Sub G H) (h : ItR g φ G J J') (hn : nth μ J i = some none) : J'.stop i H := by
  cases J with
  | tup xs =>
    obtain ⟨a, vs, rfl, h2, h3⟩ := h
    simp only [nth, Option.some.injEq] at hn
    exact ⟨vs, sqT_sub sb h2, h3.none hn⟩
  | ref j =>
    obtain ⟨a, rfl, h2⟩ := h
    simp only [nth] at hn
    cases e : lstAt μ j with
    | none => rw [e] at hn; cases hn
    | some xs =>
      rw [e] at hn
      simp only [Option.map_some, Option.some.injEq] at hn
      obtain ⟨vs, h3, h4⟩ := r.lstAt e h2
      exact ⟨vs, sqL_sub sb h3, h4.none hn⟩
  | rng lo n st =>
    obtain ⟨rfl, rfl⟩ := h
    simp only [nth, Option.some.injEq] at hn
    split at hn
    · cases hn
    · show n ≤ i
      omega
  | _ => exact h.elim
theorem it_go {φ : List Addr} {G H : Hp} {μ : Mem} {J : MV} {J' : It} {i : Nat} {x : MV} (r : Rel g φ G μ) (sb : Sub G H) (h : ItR g φ G J J') (hn : nth μ J i = some (some x)) :
    J'.go i H ∧ ∀ v H', J'.yld i H v H' → ∃ G', Ext none φ G H φ G' H' ∧ Rel g φ G' μ ∧ RV g φ G' x v := by
  cases J with
  | tup xs =>
    obtain ⟨a, vs, rfl, h2, h3⟩ := h
    simp only [nth, Option.some.injEq] at hn
    obtain ⟨v, h4, h5⟩ := h3.get hn
    refine ⟨⟨vs, v, sqT_sub sb h2, h4⟩, fun u H' hy => ?_⟩
    obtain ⟨rfl, hy⟩ := hy
    have := hy vs (sqT_sub sb h2)
    rw [h4] at this
    cases this
    exact ⟨G, Ext.refl sb, r, h5⟩
  | ref j =>
    obtain ⟨a, rfl, h2⟩ := h
    simp only [nth] at hn
    cases e : lstAt μ j with
    | none => rw [e] at hn; cases hn
    | some xs =>
      rw [e] at hn
      simp only [Option.map_some, Option.some.injEq] at hn
      obtain ⟨vs, h3, h4⟩ := r.lstAt e h2
      obtain ⟨v, h5, h6⟩ := h4.get hn
      refine ⟨⟨vs, v, sqL_sub sb h3, h5⟩, fun u H' hy => ?_⟩
      obtain ⟨rfl, hy⟩ := hy
      have := hy vs (sqL_sub sb h3)
      rw [h5] at this
      cases this
      exact ⟨G, Ext.refl sb, r, h6⟩
  | rng lo n st =>
    obtain ⟨rfl, rfl⟩ := h
    simp only [nth, Option.some.injEq] at hn
    split at hn
    · rename_i hi
      cases hn
      refine ⟨hi, fun u H' hy => ?_⟩
      obtain ⟨rfl, rfl⟩ := hy
      refine ⟨G, Ext.refl sb, r, ?_⟩
      simp only [RV, Int.mul_one]
    · cases hn
  | _ => exact h.elim
/-- an expression that is walked -/
def tI (g : Glob) (T : Tab) (W : WX) (md : Md) (A : E) : TI := fun σ H R => ∃ φ G μ σm, Sub G H ∧ Rel g φ G μ ∧ RSt g φ G H md σm σ ∧ Good g W σ φ G H ((evE T A σm μ).bind fun J μ => itM μ J) fun J _ φ1 G1 H1 => ∀ J', ItR g φ1 G1 J J' → R J' H1
theorem si_val {tg e : PySem.Expr} {A : E} (hK : g.K = X.K) (he : PE X e (tE g T W md A)) : PI X tg e (tI g T W md A) := by
  refine ⟨fun pins s σ H R I h => ?_⟩
  obtain ⟨φ, G, μ, σm, sb, r, en, h⟩ := h
  refine thn (he.run pins s σ H (fun x H1 => ∃ φ G μ v, Sub G H1 ∧ Rel g φ G μ ∧ RV g φ G v x ∧ Good g W σ φ G H1 (itM μ v) fun J _ φ1 G1 H1 => ∀ J', ItR g φ1 G1 J J' → R J' H1) I ⟨φ, G, μ, σm, sb, r, en, h.bind.imp fun v μ1 φ1 G1 H1 e1 r1 k w hw => ⟨φ1, G1, μ1, v, e1.sub, r1, hw, k⟩⟩) fun v s1 ⟨x, H1, I1, r1, q1⟩ => ?_
  obtain ⟨φ1, G1, μ1, x', sb1, rl1, rx, q1⟩ := q1
  unfold itM at q1
  split at q1
  · have q2 := q1.here sb1 rl1
    simp only [RV] at rx
    obtain ⟨a, vs, rfl, hq, hr⟩ := rx
    cases r1
    have hq' : SqT X.K H1 a vs := by
      rw [← hK]
      exact sqT_sub sb1 hq
    obtain ⟨its, rv, p, hz⟩ := I1.tuple hq'
    refine wpAny_pyIter_tuple (show s1.heap.IsTuple a its.toArray from p) ?_
    refine pi_one (J := Itt X.K a) (tk := s1.toks) I1 _ (turn_tuple a _) ⟨_, Heap.get?_push_size _ rfl, rfl, rfl⟩ (q2 _ ⟨a, vs, by rw [hK], hq, hr⟩)
  · split at q1
    · rename_i i xs e
      have q2 := q1.here sb1 rl1
      obtain ⟨a, vs, rfl, ha, hq, hr⟩ := rl1.ref e rx
      cases r1
      have hq' : SqL X.K H1 a vs := by
        rw [← hK]
        exact sqL_sub sb1 hq
      obtain ⟨its, rv, p, hz⟩ := I1.list hq'
      refine wpAny_pyIter_list p.isList ?_
      refine pi_one (J := Itl X.K a) (tk := s1.toks) I1 _ (turn_list a _) ⟨_, Heap.get?_push_size _ rfl, rfl, rfl⟩ (q2 _ ⟨a, by rw [hK], ha⟩)
    · exact q1.elim
  · simp only [RV] at rx
  · simp only [RV] at rx
  · simp only [RV] at rx
  · exact q1.elim
theorem si_rng1 {tg e : PySem.Expr} {p : Pos} {A : E} (hg : Gl X "range") (hm : X.mg "range" = none) (hp : plain e = true) (ha : PA X [e] (tEs g T W md [A])) : PI X tg (.Call (.Name "range" p) [e] [] pos) (tI g T W md (.rng [A])) := by
  refine ⟨fun pins s σ H R I h => (pi_range1 hg hm ha (star_cons hp)).run pins s σ H R I ?_⟩
  obtain ⟨φ, G, μ, σm, sb, r, en, h⟩ := h
  simp only [evE] at h
  refine ⟨φ, G, μ, σm, sb, r, en, h.bind.bind.imp2 fun xs μ1 φ1 G1 H1 e0 e1 r1 k vs hvs => ?_⟩
  have hl := evEs_len e0
  obtain ⟨x, rfl⟩ : ∃ x, xs = [x] := by
    cases xs with
    | nil => cases hl
    | cons x xs =>
      cases xs with
      | nil => exact ⟨x, rfl⟩
      | cons y ys => simp at hl
  obtain ⟨v, rfl, hv⟩ := hvs.one
  unfold rngM at k
  split at k
  · rename_i a heq
    cases heq
    split at k
    · rename_i hb
      simp only [RV] at hv
      subst hv
      exact ⟨a, rfl, hb.1, hb.2, (k.here e1.sub r1).here e1.sub r1 _ ⟨rfl, rfl⟩⟩
    · exact k.elim
  · rename_i heq
    cases heq
  · exact k.elim
theorem si_rng2 {tg e e2 : PySem.Expr} {p : Pos} {A B : E} (hg : Gl X "range") (hm : X.mg "range" = none) (hp : plain e = true) (hp2 : plain e2 = true) (ha : PA X [e, e2] (tEs g T W md [A, B])) : PI X tg (.Call (.Name "range" p) [e, e2] [] pos) (tI g T W md (.rng [A, B])) := by
  refine ⟨fun pins s σ H R I h => (pi_range2 hg hm ha (by rw [star_cons hp, star_cons hp2]; rfl) (by rw [star_cons hp2]; rfl)).run pins s σ H R I ?_⟩
  obtain ⟨φ, G, μ, σm, sb, r, en, h⟩ := h
  simp only [evE] at h
  refine ⟨φ, G, μ, σm, sb, r, en, h.bind.bind.imp2 fun xs μ1 φ1 G1 H1 e0 e1 r1 k vs hvs => ?_⟩
  have hl := evEs_len e0
  obtain ⟨x, y, rfl⟩ : ∃ x y, xs = [x, y] := by
    cases xs with
    | nil => cases hl
    | cons x xs =>
      cases xs with
      | nil => cases hl
      | cons y ys =>
        cases ys with
        | nil => exact ⟨x, y, rfl⟩
        | cons z zs => simp at hl
  obtain ⟨v, w, rfl, hv, hw⟩ := hvs.two
  unfold rngM at k
  split at k
  · rename_i heq
    cases heq
  · rename_i a b heq
    cases heq
    split at k
    · rename_i hb
      simp only [RV] at hv hw
      subst hv hw
      exact ⟨a, b, rfl, hb, (k.here e1.sub r1).here e1.sub r1 _ ⟨rfl, rfl⟩⟩
    · exact k.elim
  · exact k.elim
/-! ### comprehensions -/
abbrev W0 : WX := fun _ _ _ _ => False
theorem compL_noX {J : MV} {body : List MV → MV → Mem → R (List MV)} (hb : ∀ acc x μ x' μ', body acc x μ ≠ .exc x' μ') : ∀ (n i : Nat) (acc : List MV) (μ : Mem) x' μ', compL J body n i acc μ ≠ .exc x' μ'
  | 0, _, _, _, _, _ => by simp [compL]
  | n + 1, i, acc, μ, x', μ' => by
    simp only [compL]
    split
    · rename_i x e
      cases e1 : body acc x μ with
      | ok a μ1 => exact compL_noX hb n (i + 1) a μ1 x' μ'
      | exc y μ1 => exact absurd e1 (hb _ _ _ _ _)
      | no => simp [R.bind]
    · simp
    · simp
theorem calm_ok {α : Type} {r : R α} {a : α} {μ : Mem} (h : R.calm r = .ok a μ) : r = .ok a μ := by
  cases r with
  | ok b ν => exact h
  | exc x ν => cases h
  | no => cases h
theorem bind_ok {α β : Type} {r : R α} {f : α → Mem → R β} {b : β} {μ : Mem} (h : r.bind f = .ok b μ) : ∃ a μ1, r = .ok a μ1 ∧ f a μ1 = .ok b μ := by
  cases r with
  | ok a ν => exact ⟨a, ν, rfl, h⟩
  | exc x ν => cases h
  | no => cases h
theorem opt_ok {α : Type} {o : Option α} {a : α} {μ ν : Mem} (h : R.opt o μ = .ok a ν) : o = some a ∧ ν = μ := by
  cases o with
  | none => cases h
  | some b =>
    simp only [R.opt, R.ok.injEq] at h
    exact ⟨by rw [h.1], h.2.symm⟩
theorem good_ok {α : Type} {W : WX} {σ : L2.St} {φ : List Addr} {G H : Hp} {r : R α} {a : α} {μ : Mem} {k : KM α} (h : r = .ok a μ) (q : ∀ φ1 G1 H1, Ext none φ G H φ1 G1 H1 → Rel g φ1 G1 μ → k a μ φ1 G1 H1) : Good g W σ φ G H r k := by
  rw [h]
  exact q
/-- what persists -/
structure Per (φ : List Addr) (G : Hp) (φ1 : List Addr) (G1 : Hp) : Prop where
  pre : φ <+: φ1
  keep : ∀ a o, G a = some o → Fix o → G1 a = some o
theorem Ext.per {ex : Option Addr} {φ φ1 : List Addr} {G G1 H H1 : Hp} (e : Ext ex φ G H φ1 G1 H1) : Per φ G φ1 G1 := ⟨e.pre, e.keep⟩
theorem Per.trans {φ φ1 φ2 : List Addr} {G G1 G2 : Hp} (a : Per φ G φ1 G1) (b : Per φ1 G1 φ2 G2) : Per φ G φ2 G2 := ⟨a.pre.trans b.pre, fun c o h i => b.keep c o (a.keep c o h i) i⟩
theorem Per.refl {φ : List Addr} {G : Hp} : Per φ G φ G := ⟨List.prefix_refl _, fun _ _ h _ => h⟩
theorem REnv.per {φ φ1 : List Addr} {G G1 : Hp} {σm : Env} {σ : L2.St} (h : REnv g φ G md σm σ) (e : Per φ G φ1 G1) : REnv g φ1 G1 md σm σ :=
  ⟨h.1, fun i v e1 e2 => let ⟨w, q, r⟩ := h.2 i v e1 e2; ⟨w, q, RV.mono e.pre e.keep _ _ r⟩⟩
/-- the new list D grows beside what the machine knows -/
def WL (g : Glob) (D : Addr) (φ0 : List Addr) (G0 : Hp) (φ1 : List Addr) (G1 H1 : Hp) (J : MV) (J' : It) (body : List MV → MV → Mem → R (List MV)) (accF : List MV) (μF : Mem) : Nat → Nat → Hp → Prop := fun i m H => ∃ φ2 G2 μ2 acc accV,
  Per φ0 G0 φ2 G2 ∧ Ext none φ1 G1 H1 φ2 G2 H ∧ Rel g φ2 G2 μ2 ∧ ItR g φ2 G2 J J' ∧ H D = some (.lst accV) ∧ G2 D = none ∧ RVs g φ2 G2 acc accV ∧ compL J body m i acc μ2 = .ok accF μF
/-- the same through a run's end -/
theorem side {φ1 φ2 φ3 : List Addr} {G1 G2 G3 H1 H2 H3 : Hp} {D : Addr} {accV : List V} (e12 : Ext none φ1 G1 H1 φ2 G2 H2) (e23 : Ext none φ2 G2 H2 φ3 G3 H3) (hD : H2 D = some (.lst accV)) (nD : G2 D = none) :
    Ext none φ1 G1 H1 φ3 G3 H3 ∧ H3 D = some (.lst accV) ∧ G3 D = none :=
  ⟨e12.trans e23, (e23.same hD nD).1, (e23.same hD nD).2⟩
/-- D with one item more -/
theorem side_put {φ1 φ2 : List Addr} {G1 G2 H1 H2 : Hp} {D : Addr} {ws : List V} (e : Ext none φ1 G1 H1 φ2 G2 H2) (h1 : H1 D = none) (nD : G2 D = none) :
    Ext none φ1 G1 H1 φ2 G2 (upd H2 D (.lst ws)) where
  pre := e.pre
  keep := e.keep
  sub := fun a o q => by
    rw [upd_ne (fun z => by
      subst z
      rw [nD] at q
      cases q)]
    exact e.sub a o q
  frame := fun a o q n => by
    rw [upd_ne (fun z => by
      subst z
      rw [h1] at q
      cases q)]
    exact e.frame a o q n
/-- at the end D is known -/
theorem side_end {φ1 φ2 : List Addr} {G1 G2 H1 H2 : Hp} {μ2 : Mem} {D : Addr} {acc : List MV} {accV : List V} (e : Ext none φ1 G1 H1 φ2 G2 H2) (r : Rel g φ2 G2 μ2) (h1 : H1 D = none) (hD : H2 D = some (.lst accV)) (nD : G2 D = none) (rv : RVs g φ2 G2 acc accV) :
    Ext none φ1 G1 H1 (φ2 ++ [D]) (upd G2 D (.lst accV)) H2 ∧ Rel g (φ2 ++ [D]) (upd G2 D (.lst accV)) (μ2 ++ [.lst acc]) := by
  refine ⟨⟨e.pre.trans (List.prefix_append _ _), fun a o q i => sub_new nD a o (e.keep a o q i), fun a o q => ?_, fun a o q n => ?_⟩, r.newL nD rv⟩
  · by_cases z : a = D
    · subst z
      rw [upd_same] at q
      rw [hD, q]
    · rw [upd_ne z] at q
      exact e.sub a o q
  · obtain ⟨n1, o1, q1, q2⟩ := e.frame a o q n
    have z : a ≠ D := ne_of_none q h1
    rw [upd_ne z]
    exact ⟨n1, o1, q1, q2⟩
/-- the body of a comprehension of one clause -/
def body1 (T : Tab) (A TG CD : E) (own : List Nat) (σm : Env) : List MV → MV → Mem → R (List MV) := fun acc x μ => (R.opt (bindT TG x (wipeM σm own)) μ).bind fun σ1 μ => R.calm ((evE T CD σ1 μ).bind fun k μ => (truR k μ).bind fun k μ =>
  if k then (evE T A σ1 μ).bind fun v μ => putL acc v μ else .ok acc μ)
theorem body1_noX {A TG CD : E} {own : List Nat} {σm : Env} (acc : List MV) (x : MV) (μ : Mem) (x' : MX) (μ' : Mem) : body1 T A TG CD own σm acc x μ ≠ .exc x' μ' := by
  unfold body1
  cases bindT TG x (wipeM σm own) with
  | none => simp [R.opt, R.bind]
  | some σ1 =>
    simp only [R.opt, R.bind]
    unfold R.calm
    split
    · simp
    · rename_i hne
      exact hne _ _
/-- what is wished of the item behind the tests -/
theorem item_ok {A : E} {σ : L2.St} {σ1 : Env} {D : Addr} {φ1 φ2 : List Addr} {G1 G2 H1 H2 : Hp} {μ2 μ4 : Mem} {acc acc' : List MV} {accV : List V} {Nx : Hp → Prop} {v : MV} {μ3 : Mem}
    (h1 : H1 D = none) (e12 : Ext none φ1 G1 H1 φ2 G2 H2) (r2 : Rel g φ2 G2 μ2) (en : RSt g φ2 G2 H2 md σ1 σ) (hD : H2 D = some (.lst accV)) (nD : G2 D = none) (rv : RVs g φ2 G2 acc accV) (he : evE T A σ1 μ2 = .ok v μ3) (hp : putL acc v μ3 = .ok acc' μ4)
    (k : ∀ φ3 G3 H3 accV', Ext none φ1 G1 H1 φ3 G3 H3 → Ext none φ2 G2 H2 φ3 G3 (upd H3 D (.lst accV)) → Rel g φ3 G3 μ4 → H3 D = some (.lst accV') → G3 D = none → RVs g φ3 G3 acc' accV' → Nx H3) :
    tE g T W0 md A σ H2 fun y H4 => ∃ acc, H4 D = some (.lst acc) ∧ acc.length < sizeLine ∧ Nx (upd H4 D (.lst (acc ++ [y]))) := by
  unfold putL at hp
  split at hp
  · rename_i hz
    simp only [R.ok.injEq] at hp
    obtain ⟨rfl, rfl⟩ := hp
    refine ⟨φ2, G2, μ2, σ1, e12.sub, r2, en, good_ok he fun φ3 G3 H3 e3 r3 w hw => ?_⟩
    obtain ⟨e13, hD3, nD3⟩ := side e12 e3 hD nD
    refine ⟨accV, hD3, by rw [← rv.len]; exact hz, k φ3 G3 _ (accV ++ [w]) (side_put e13 h1 nD3) ?_ r3 upd_same nD3 ((rv.ext e3).append (rvs_cons hw rvs_nil))⟩
    rw [upd_upd]
    have : upd H3 D (.lst accV) = H3 := by
      funext b
      by_cases hb : b = D
      · subst hb
        rw [upd_same, hD3]
      · rw [upd_ne hb]
    rw [this]
    exact e3
  · cases hp
theorem comp_read {IT A TG CD : E} {own : List Nat} {σ : L2.St} {H : Hp} {Q : VK} (hmd : ∀ j a c d, md ≠ .exc j a c d) (hsl : ∀ i ∈ tgSlots TG, i ∈ own) (h : tE g T W md (.comp A TG IT CD own) σ H Q) :
    tLc (tI g T W md IT) (gB g md.blk TG) (tT g T W0 md.blk CD) (tE g T W0 md.blk A) own σ H Q := by
  obtain ⟨φ, G, μ, σm, sb, r, en, h⟩ := h
  simp only [evE] at h
  have h : Good g W σ φ G H ((evE T IT σm μ).bind fun J μ => (itM μ J).bind fun J μ => (compL J (body1 T A TG CD own σm) T.n 0 [] μ).bind fun xs μ => newL xs μ) (kE g Q) := h
  have h : Good g W σ φ G H (((evE T IT σm μ).bind fun J μ => itM μ J).bind fun J μ => (compL J (body1 T A TG CD own σm) T.n 0 [] μ).bind fun xs μ => newL xs μ) (kE g Q) := by
    cases e0 : evE T IT σm μ <;> rw [e0] at h <;> exact h
  refine ⟨φ, G, μ, σm, sb, r, en, h.bind.imp fun J μ1 φ1 G1 H1 e1 r1 k J' hJ D hD => ?_⟩
  cases e0 : compL J (body1 T A TG CD own σm) T.n 0 [] μ1 with
  | exc x' μ' => exact absurd e0 (compL_noX body1_noX _ _ _ _ _ _)
  | no => rw [e0] at k; exact k.elim
  | ok accF μF =>
    rw [e0] at k
    have k : Good g W σ φ1 G1 H1 (newL accF μF) (kE g Q) := k
    have nD1 : G1 D = none := e1.sub.none hD
    have e01 : Ext none φ1 G1 H1 φ1 G1 (upd H1 D (.lst [])) := side_put (Ext.refl e1.sub) hD nD1
    refine ⟨WL g D φ1 G1 φ1 G1 H1 J J' (body1 T A TG CD own σm) accF μF, ⟨T.n, φ1, G1, μ1, [], [], Per.refl, e01, r1, hJ, upd_same, nD1, rvs_nil, e0⟩, fun i m H2 hw => ?_⟩
    obtain ⟨φ2, G2, μ2, acc, accV, p2, e2, r2, hJ2, hD2, nD2, rv2, hc⟩ := hw
    cases m with
    | zero => simp only [compL] at hc; cases hc
    | succ m =>
      simp only [compL] at hc
      split at hc
      · rename_i x hn
        obtain ⟨hgo, hyld⟩ := it_go r2 e2.sub hJ2 hn
        refine .inr ⟨hgo, fun H' => WL g D φ1 G1 φ1 G1 H1 J J' (body1 T A TG CD own σm) accF μF (i + 1) m H', fun H' hw' => ⟨m, Nat.lt_succ_self m, hw'⟩, fun v H3 hy => ?_⟩
        obtain ⟨G3, e3, r3, rx⟩ := hyld v H3 hy
        obtain ⟨e13, hD3, nD3⟩ := side e2 e3 hD2 nD2
        obtain ⟨acc', μ4, hb, hrest⟩ := bind_ok hc
        unfold body1 at hb
        obtain ⟨σ1, μ2', hb1, hb2⟩ := bind_ok hb
        obtain ⟨hb0, rfl⟩ := opt_ok hb1
        have hb2 := calm_ok hb2
        obtain ⟨kv, μ5, hc1, hb3⟩ := bind_ok hb2
        obtain ⟨kb, μ5', ht1, hb4⟩ := bind_ok hb3
        have en3 := ((((en.env.ext e1).ext e13).wipe own).blk hmd)
        refine ⟨φ2, G3, x, wipeM σm own, σ1, e3.sub, rx, en3, hb0, fun σ' en' st => ⟨(st.wipe hsl).trans (wipe_wipe own σ), φ2, G3, _, σ1, e3.sub, r3, RSt.of en', ?_⟩⟩
        refine good_ok (a := kb) (μ := μ5') (by rw [hc1]; exact ht1) fun φ4 G4 H4 e4 r4 => ?_
        obtain ⟨e14, hD4, nD4⟩ := side e13 e4 hD3 nD3
        cases kb with
        | true =>
          rw [if_pos rfl] at hb4 ⊢
          obtain ⟨vv, μ6, hv1, hp1⟩ := bind_ok hb4
          exact item_ok hD e14 r4 ((RSt.of en').ext e4) hD4 nD4 ((rv2.ext e3).ext e4) hv1 hp1 fun φ5 G5 H5 accV' e15 e45 r5 hD5 nD5 rv5 => ⟨φ5, G5, μ4, acc', accV', e15.per, e15, r5, ((hJ2.ext e3).ext e4).ext e45, hD5, nD5, rv5, hrest⟩
        | false =>
          rw [if_neg Bool.false_ne_true] at hb4 ⊢
          simp only [R.ok.injEq] at hb4
          obtain ⟨rfl, rfl⟩ := hb4
          exact ⟨φ4, G4, _, acc, accV, e14.per, e14, r4, (hJ2.ext e3).ext e4, hD4, nD4, (rv2.ext e3).ext e4, hrest⟩
      · rename_i hn
        simp only [R.ok.injEq] at hc
        obtain ⟨rfl, rfl⟩ := hc
        refine .inl ⟨it_stop r2 e2.sub hJ2 hn, ?_⟩
        unfold newL at k
        split at k
        · obtain ⟨e3, r3⟩ := side_end e2 r2 hD hD2 nD2 rv2
          refine k _ _ _ e3 r3 _ ?_
          simp only [RV]
          exact ⟨D, rfl, by rw [← r2.len, List.getElem?_append_right (Nat.le_refl _), Nat.sub_self]; rfl⟩
        · exact k.elim
      · cases hc
/-- the bodies of a comprehension of two clauses -/
def body2i (T : Tab) (A TG1 CD1 : E) (own1 : List Nat) (σ1 : Env) : List MV → MV → Mem → R (List MV) := fun acc x μ => (R.opt (bindT TG1 x (wipeM σ1 own1)) μ).bind fun σ2 μ => (evE T CD1 σ2 μ).bind fun k μ => (truR k μ).bind fun k μ =>
  if k then (evE T A σ2 μ).bind fun v μ => putL acc v μ else .ok acc μ
def body2 (T : Tab) (A TG CD TG1 IT1 CD1 : E) (own own1 : List Nat) (σm : Env) : List MV → MV → Mem → R (List MV) := fun acc x μ => (R.opt (bindT TG x (wipeM σm own)) μ).bind fun σ1 μ => R.calm ((evE T CD σ1 μ).bind fun k μ => (truR k μ).bind fun k μ =>
  if k then (evE T IT1 σ1 μ).bind fun J1 μ => (itM μ J1).bind fun J1 μ => compL J1 (body2i T A TG1 CD1 own1 σ1) T.n 0 acc μ else .ok acc μ)
theorem body2_noX {A TG CD TG1 IT1 CD1 : E} {own own1 : List Nat} {σm : Env} (acc : List MV) (x : MV) (μ : Mem) (x' : MX) (μ' : Mem) : body2 T A TG CD TG1 IT1 CD1 own own1 σm acc x μ ≠ .exc x' μ' := by
  unfold body2
  cases bindT TG x (wipeM σm own) with
  | none => simp [R.opt, R.bind]
  | some σ1 =>
    simp only [R.opt, R.bind]
    unfold R.calm
    split
    · simp
    · rename_i hne
      exact hne _ _
theorem comp2_read {IT A TG CD TG1 IT1 CD1 : E} {own own1 : List Nat} {σ : L2.St} {H : Hp} {Q : VK} (hmd : ∀ j a c d, md ≠ .exc j a c d) (hsl : ∀ i ∈ tgSlots TG, i ∈ own) (hsl1 : ∀ i ∈ tgSlots TG1, i ∈ own1) (h : tE g T W md (.comp2 A TG IT CD TG1 IT1 CD1 own own1) σ H Q) :
    tLc2 (tI g T W md IT) (gB g md.blk TG) (tT g T W0 md.blk CD) (tI g T W0 md.blk IT1) (gB g md.blk TG1) (tT g T W0 md.blk CD1) (tE g T W0 md.blk A) own own1 σ H Q := by
  obtain ⟨φ, G, μ, σm, sb, r, en, h⟩ := h
  simp only [evE] at h
  have h : Good g W σ φ G H ((evE T IT σm μ).bind fun J μ => (itM μ J).bind fun J μ => (compL J (body2 T A TG CD TG1 IT1 CD1 own own1 σm) T.n 0 [] μ).bind fun xs μ => newL xs μ) (kE g Q) := h
  have h : Good g W σ φ G H (((evE T IT σm μ).bind fun J μ => itM μ J).bind fun J μ => (compL J (body2 T A TG CD TG1 IT1 CD1 own own1 σm) T.n 0 [] μ).bind fun xs μ => newL xs μ) (kE g Q) := by
    cases e0 : evE T IT σm μ <;> rw [e0] at h <;> exact h
  refine ⟨φ, G, μ, σm, sb, r, en, h.bind.imp fun J μ1 φ1 G1 H1 e1 r1 k J' hJ D hD => ?_⟩
  generalize hbd : body2 T A TG CD TG1 IT1 CD1 own own1 σm = bd at k
  cases e0 : compL J bd T.n 0 [] μ1 with
  | exc x' μ' =>
    refine absurd e0 (compL_noX ?_ _ _ _ _ _ _)
    rw [← hbd]
    exact body2_noX
  | no => rw [e0] at k; exact k.elim
  | ok accF μF =>
    rw [e0] at k
    have k : Good g W σ φ1 G1 H1 (newL accF μF) (kE g Q) := k
    have nD1 : G1 D = none := e1.sub.none hD
    have e01 : Ext none φ1 G1 H1 φ1 G1 (upd H1 D (.lst [])) := side_put (Ext.refl e1.sub) hD nD1
    refine ⟨WL g D φ1 G1 φ1 G1 H1 J J' bd accF μF, ⟨T.n, φ1, G1, μ1, [], [], Per.refl, e01, r1, hJ, upd_same, nD1, rvs_nil, e0⟩, fun i m H2 hw => ?_⟩
    obtain ⟨φ2, G2, μ2, acc, accV, p2, e2, r2, hJ2, hD2, nD2, rv2, hc⟩ := hw
    cases m with
    | zero => simp only [compL] at hc; cases hc
    | succ m =>
      simp only [compL] at hc
      split at hc
      · rename_i x hn
        obtain ⟨hgo, hyld⟩ := it_go r2 e2.sub hJ2 hn
        refine .inr ⟨hgo, fun H' => WL g D φ1 G1 φ1 G1 H1 J J' bd accF μF (i + 1) m H', fun H' hw' => ⟨m, Nat.lt_succ_self m, hw'⟩, fun v H3 hy => ?_⟩
        obtain ⟨G3, e3, r3, rx⟩ := hyld v H3 hy
        obtain ⟨e13, hD3, nD3⟩ := side e2 e3 hD2 nD2
        obtain ⟨acc', μ4, hb, hrest⟩ := bind_ok hc
        have hb : body2 T A TG CD TG1 IT1 CD1 own own1 σm acc x μ2 = .ok acc' μ4 := by
          rw [hbd]
          exact hb
        unfold body2 at hb
        obtain ⟨σ1, μ2', hb1, hb2⟩ := bind_ok hb
        obtain ⟨hb0, rfl⟩ := opt_ok hb1
        have hb2 := calm_ok hb2
        obtain ⟨kv, μ5, hc1, hb3⟩ := bind_ok hb2
        obtain ⟨kb, μ5', ht1, hb4⟩ := bind_ok hb3
        have en3 := ((((en.env.ext e1).ext e13).wipe own).blk hmd)
        refine ⟨φ2, G3, x, wipeM σm own, σ1, e3.sub, rx, en3, hb0, fun σ' en' st => ⟨(st.wipe hsl).trans (wipe_wipe own σ), φ2, G3, _, σ1, e3.sub, r3, RSt.of en', ?_⟩⟩
        refine good_ok (a := kb) (μ := μ5') (by rw [hc1]; exact ht1) fun φ4 G4 H4 e4 r4 => ?_
        obtain ⟨e14, hD4, nD4⟩ := side e13 e4 hD3 nD3
        cases kb with
        | true =>
          rw [if_pos rfl] at hb4 ⊢
          obtain ⟨J1, μ6, hi1, hb5⟩ := bind_ok hb4
          obtain ⟨J2, μ7, hi2, hb6⟩ := bind_ok hb5
          refine ⟨φ4, G4, _, σ1, e4.sub, r4, (RSt.of en').ext e4, good_ok (a := J2) (μ := μ7) (by rw [hi1]; exact hi2) fun φ5 G5 H5 e5 r5 J2' hJ2' => ?_⟩
          obtain ⟨e15, hD5, nD5⟩ := side e14 e5 hD4 nD4
          refine ⟨WL g D φ5 G5 φ1 G1 H1 J2 J2' (body2i T A TG1 CD1 own1 σ1) acc' μ4, ⟨T.n, φ5, G5, μ7, acc, accV, Per.refl, e15, r5, hJ2', hD5, nD5, ((rv2.ext e3).ext e4).ext e5, hb6⟩, fun j n H6 hw6 => ?_⟩
          obtain ⟨φ6, G6, μ8, acc6, accV6, p6, e6, r6, hJ6, hD6, nD6, rv6, hc6⟩ := hw6
          cases n with
          | zero => simp only [compL] at hc6; cases hc6
          | succ n =>
            simp only [compL] at hc6
            split at hc6
            · rename_i y hn6
              obtain ⟨hgo6, hyld6⟩ := it_go r6 e6.sub hJ6 hn6
              refine .inr ⟨hgo6, fun H' => WL g D φ5 G5 φ1 G1 H1 J2 J2' (body2i T A TG1 CD1 own1 σ1) acc' μ4 (j + 1) n H', fun H' hw' => ⟨n, Nat.lt_succ_self n, hw'⟩, fun v H7 hy7 => ?_⟩
              obtain ⟨G7, e7, r7, ry⟩ := hyld6 v H7 hy7
              obtain ⟨e17, hD7, nD7⟩ := side e6 e7 hD6 nD6
              have p7 := p6.trans e7.per
              obtain ⟨acc8, μ9, hb7, hrest7⟩ := bind_ok hc6
              unfold body2i at hb7
              obtain ⟨σ2, μ8', hb8, hb9⟩ := bind_ok hb7
              obtain ⟨hb80, rfl⟩ := opt_ok hb8
              obtain ⟨kv7, μ10, hc7, hb10⟩ := bind_ok hb9
              obtain ⟨kb7, μ10', ht7, hb11⟩ := bind_ok hb10
              have en7 := ((((en'.ext e4).ext e5).per p7).wipe own1)
              refine ⟨φ6, G7, y, wipeM σ1 own1, σ2, e7.sub, ry, en7, hb80, fun σ'' en'' st'' => ⟨(st''.wipe hsl1).trans (wipe_wipe own1 σ'), φ6, G7, _, σ2, e7.sub, r7, RSt.of en'', ?_⟩⟩
              refine good_ok (a := kb7) (μ := μ10') (by rw [hc7]; exact ht7) fun φ8 G8 H8 e8 r8 => ?_
              obtain ⟨e18, hD8, nD8⟩ := side e17 e8 hD7 nD7
              have p8 := p7.trans e8.per
              cases kb7 with
              | true =>
                rw [if_pos rfl] at hb11 ⊢
                obtain ⟨vv, μ11, hv1, hp1⟩ := bind_ok hb11
                exact item_ok hD e18 r8 ((RSt.of en'').ext e8) hD8 nD8 ((rv6.ext e7).ext e8) hv1 hp1 fun φ9 G9 H9 accV' e19 e89 r9 hD9 nD9 rv9 => ⟨φ9, G9, μ9, acc8, accV', p8.trans e89.per, e19, r9, ((hJ6.ext e7).ext e8).ext e89, hD9, nD9, rv9, hrest7⟩
              | false =>
                rw [if_neg Bool.false_ne_true] at hb11 ⊢
                simp only [R.ok.injEq] at hb11
                obtain ⟨rfl, rfl⟩ := hb11
                exact ⟨φ8, G8, _, acc6, accV6, p8, e18, r8, (hJ6.ext e7).ext e8, hD8, nD8, (rv6.ext e7).ext e8, hrest7⟩
            · rename_i hn6
              simp only [R.ok.injEq] at hc6
              obtain ⟨rfl, rfl⟩ := hc6
              exact .inl ⟨it_stop r6 e6.sub hJ6 hn6, φ6, G6, _, acc6, accV6, e6.per, e6, r6, hJ.ext e6, hD6, nD6, rv6, hrest⟩
            · cases hc6
        | false =>
          rw [if_neg Bool.false_ne_true] at hb4 ⊢
          simp only [R.ok.injEq] at hb4
          obtain ⟨rfl, rfl⟩ := hb4
          exact ⟨φ4, G4, _, acc, accV, e14.per, e14, r4, (hJ2.ext e3).ext e4, hD4, nD4, (rv2.ext e3).ext e4, hrest⟩
      · rename_i hn
        simp only [R.ok.injEq] at hc
        obtain ⟨rfl, rfl⟩ := hc
        refine .inl ⟨it_stop r2 e2.sub hJ2 hn, ?_⟩
        unfold newL at k
        split at k
        · obtain ⟨e3, r3⟩ := side_end e2 r2 hD hD2 nD2 rv2
          refine k _ _ _ e3 r3 _ ?_
          simp only [RV]
          exact ⟨D, rfl, by rw [← r2.len, List.getElem?_append_right (Nat.le_refl _), Nat.sub_self]; rfl⟩
        · exact k.elim
      · cases hc
end
end Mch

/-! ## Statements -/
namespace Mch
open PySem PySem.Spec PyProof.Rows L2
section
variable {g : Glob} {φ φ1 : List Addr} {G G1 H H1 : Hp} {md : Md} {σm : Env} {σ : L2.St}
/-- what a statement's end gives -/
def GoodS (g : Glob) (W : WX) (md : Md) (φ : List Addr) (G H : Hp) (D : Ends) : RS → Prop
  | .ok (.next σm) μ => ∀ φ1 G1 H1 σ', Ext md.adr φ G H φ1 G1 H1 → Rel g φ1 G1 μ → RSt g φ1 G1 H1 md σm σ' → D.nx σ' H1
  | .ok (.brk σm) μ => ∀ φ1 G1 H1 σ', Ext md.adr φ G H φ1 G1 H1 → Rel g φ1 G1 μ → RSt g φ1 G1 H1 md σm σ' → D.bk σ' H1
  | .ok (.cnt σm) μ => ∀ φ1 G1 H1 σ', Ext md.adr φ G H φ1 G1 H1 → Rel g φ1 G1 μ → RSt g φ1 G1 H1 md σm σ' → D.ct σ' H1
  | .ok (.ret v) μ => ∀ φ1 G1 H1 w, Ext md.adr φ G H φ1 G1 H1 → Rel g φ1 G1 μ → RV g φ1 G1 v w → D.rt w H1
  | .exc x σm μ => ∀ φ1 G1 H1 σ', Ext md.adr φ G H φ1 G1 H1 → Rel g φ1 G1 μ → RSt g φ1 G1 H1 md σm σ' → ∀ cls dd, RX g φ1 G1 H1 x cls dd → W cls dd σ' H1
  | .no => False
variable {W : WX} {D D' : Ends}
theorem GoodS.ext {r : RS} (h : GoodS g W md φ G H D r) (e : Ext md.adr φ G H φ1 G1 H1) : GoodS g W md φ1 G1 H1 D r := by
  cases r with
  | ok f μ => cases f with
    | next σm => exact fun φ2 G2 H2 σ' e2 r2 s2 => h φ2 G2 H2 σ' (e.trans e2) r2 s2
    | brk σm => exact fun φ2 G2 H2 σ' e2 r2 s2 => h φ2 G2 H2 σ' (e.trans e2) r2 s2
    | cnt σm => exact fun φ2 G2 H2 σ' e2 r2 s2 => h φ2 G2 H2 σ' (e.trans e2) r2 s2
    | ret v => exact fun φ2 G2 H2 w e2 r2 s2 => h φ2 G2 H2 w (e.trans e2) r2 s2
  | exc x σm μ => exact fun φ2 G2 H2 σ' e2 r2 s2 => h φ2 G2 H2 σ' (e.trans e2) r2 s2
  | no => exact h
/-- a run, read as a statement -/
def tR (g : Glob) (W : WX) (md : Md) (run : Env → Mem → RS) : TS := fun D σ H => ∃ φ G μ σm, Sub G H ∧ Rel g φ G μ ∧ RSt g φ G H md σm σ ∧ GoodS g W md φ G H D (run σm μ)
theorem GoodS.go {r : RS} {f : Env → Mem → RS} (h : GoodS g W md φ G H D (r.go f)) : GoodS g W md φ G H { D with nx := tR g W md f D } r := by
  cases r with
  | ok fl μ => cases fl with
    | next σm => exact fun φ2 G2 H2 σ' e2 r2 s2 => ⟨φ2, G2, μ, σm, e2.sub, r2, s2, GoodS.ext (r := f σm μ) h e2⟩
    | brk σm => exact h
    | cnt σm => exact h
    | ret v => exact h
  | exc x σm μ => exact h
  | no => exact h
/-- an expression, then the rest of a statement -/
theorem GoodS.stm {α : Type} {r : R α} {f : α → Mem → RS} (st : RSt g φ G H md σm σ) (h : GoodS g W md φ G H D (r.stm σm f)) : Good g W σ φ G H r fun a μ φ1 G1 H1 => GoodS g W md φ1 G1 H1 D (f a μ) := by
  cases r with
  | ok a μ => exact fun φ1 G1 H1 e r1 => GoodS.ext (r := f a μ) h e.weak
  | exc x μ => exact fun φ1 G1 H1 e r1 => h φ1 G1 H1 σ e.weak r1 (st.ext e)
  | no => exact h
theorem GoodS.here {μ : Mem} (h : GoodS g W md φ G H D (.ok (.next σm) μ)) (s : Sub G H) (r : Rel g φ G μ) (st : RSt g φ G H md σm σ) : D.nx σ H := h φ G H σ (Ext.refl s) r st
end
section
variable {X : Cx} {g : Glob} {T : Tab} {W : WX} {md : Md} {pos : Pos} {e c : PySem.Expr} {A C : E} {a b : List Stmt} {Ab Bb : List S}
theorem ss_nil : PSs X [] (tR g W md (evB T [])) := by
  refine ⟨fun pins s σ H D I h => pss_nil.run pins s σ H D I ?_⟩
  obtain ⟨φ, G, μ, σm, sb, r, st, h⟩ := h
  simp only [evB] at h
  exact h.here sb r st
theorem ss_cons {st : Stmt} {rest : List Stmt} {s : S} {bs : List S} (h1 : PS X st (tR g W md (evS T s))) (h2 : PSs X rest (tR g W md (evB T bs))) : PSs X (st :: rest) (tR g W md (evB T (s :: bs))) := by
  refine ⟨fun pins s σ H D I h => (pss_cons h1 h2).run pins s σ H D I ?_⟩
  obtain ⟨φ, G, μ, σm, sb, r, st, h⟩ := h
  simp only [evB] at h
  exact ⟨φ, G, μ, σm, sb, r, st, h.go⟩
theorem sp_pass : PS X (.Pass pos) (tR g W md (evS T .pass)) := by
  refine ⟨fun pins s σ H D I h => ps_pass.run pins s σ H D I ?_⟩
  obtain ⟨φ, G, μ, σm, sb, r, st, h⟩ := h
  simp only [evS] at h
  exact h.here sb r st
theorem sp_brk : PS X (.Break pos) (tR g W md (evS T .brk)) := by
  refine ⟨fun pins s σ H D I h => ps_break.run pins s σ H D I ?_⟩
  obtain ⟨φ, G, μ, σm, sb, r, st, h⟩ := h
  simp only [evS] at h
  exact h φ G H σ (Ext.refl sb) r st
theorem sp_cnt : PS X (.Continue pos) (tR g W md (evS T .cnt)) := by
  refine ⟨fun pins s σ H D I h => ps_continue.run pins s σ H D I ?_⟩
  obtain ⟨φ, G, μ, σm, sb, r, st, h⟩ := h
  simp only [evS] at h
  exact h φ G H σ (Ext.refl sb) r st
theorem sp_retN : PS X (.Return none pos) (tR g W md (evS T .retN)) := by
  refine ⟨fun pins s σ H D I h => ps_retN.run pins s σ H D I ?_⟩
  obtain ⟨φ, G, μ, σm, sb, r, st, h⟩ := h
  simp only [evS] at h
  exact h φ G H _ (Ext.refl sb) r (by simp only [RV])
theorem sp_ret (he : PE X e (tE g T W md A)) : PS X (.Return (some e) pos) (tR g W md (evS T (.ret A))) := by
  refine ⟨fun pins s σ H D I h => (ps_ret he).run pins s σ H D I ?_⟩
  obtain ⟨φ, G, μ, σm, sb, r, st, h⟩ := h
  simp only [evS] at h
  exact ⟨φ, G, μ, σm, sb, r, st, (h.stm st).imp fun v μ1 φ1 G1 H1 e1 r1 k w hw => k φ1 G1 H1 w (Ext.refl e1.sub) r1 hw⟩
def notComp : PySem.Expr → Bool
  | .ListComp _ _ _ _ => false
  | .SetComp _ _ _ _ => false
  | .DictComp _ _ _ _ _ => false
  | _ => true
theorem swaps_no {t : Option PySem.Expr} {l : Nat} {env : PySem.Env} (h : notComp e = true) : swapsWith e t l env = pure false := by
  cases e <;> first | rfl | cases h
theorem sp_expr (hn : notComp e = true) (he : PE X e (tE g T W md A)) : PS X (.Expr e pos) (tR g W md (evS T (.expr A))) := by
  refine ⟨fun pins s σ H D I h => (ps_expr he (swaps_no hn)).run pins s σ H D I ?_⟩
  obtain ⟨φ, G, μ, σm, sb, r, st, h⟩ := h
  simp only [evS] at h
  exact ⟨φ, G, μ, σm, sb, r, st, (h.stm st).imp fun v μ1 φ1 G1 H1 e1 r1 k w hw => k.here e1.sub r1 (st.ext e1)⟩
theorem stm_bind {α β : Type} {r : R α} {f : α → Mem → R β} {k : β → Mem → RS} {σm : Env} : (r.bind f).stm σm k = r.stm σm fun a μ => (f a μ).stm σm k := by
  cases r <;> rfl
theorem sp_ite (hc : PT X c (tT g T W md C)) (ha : PSs X a (tR g W md (evB T Ab))) (hb : PSs X b (tR g W md (evB T Bb))) : PS X (.If c a b pos) (tR g W md (evS T (.ite C Ab Bb))) := by
  refine ⟨fun pins s σ H D I h => (ps_if hc ha hb).run pins s σ H D I ?_⟩
  obtain ⟨φ, G, μ, σm, sb, r, st, h⟩ := h
  simp only [evS] at h
  rw [← stm_bind (f := truR) (k := fun k μ => if k then evB T Ab σm μ else evB T Bb σm μ)] at h
  refine ⟨φ, G, μ, σm, sb, r, st, (h.stm st).imp fun k μ1 φ1 G1 H1 e1 r1 q => ?_⟩
  cases k with
  | true =>
    rw [if_pos rfl] at q ⊢
    exact ⟨φ1, G1, μ1, σm, e1.sub, r1, st.ext e1, q⟩
  | false =>
    rw [if_neg Bool.false_ne_true] at q ⊢
    exact ⟨φ1, G1, μ1, σm, e1.sub, r1, st.ext e1, q⟩
/-! ### loops -/
theorem sp_while (hp : PassesOwn (model X.prog X.w) X.A X.env X.xe) (hc : PT X c (tT g T W md C)) (hb : PSs X b (tR g W md (evB T Bb))) : PS X (.While c b [] pos) (tR g W md (evS T (.while C Bb))) := by
  refine ⟨fun pins s σ H D I h => (ps_while hp hc hb).run pins s σ H D I ?_⟩
  obtain ⟨φ, G, μ, σm, sb, r, st, h⟩ := h
  simp only [evS] at h
  generalize hr0 : whileL (fun σ μ => (evE T C σ μ).bind truR) (evB T Bb) T.n σm μ = r0 at h
  refine ⟨fun m σ' H' => ∃ φ1 G1 μ1 σm1, Ext md.adr φ G H φ1 G1 H' ∧ Rel g φ1 G1 μ1 ∧ RSt g φ1 G1 H' md σm1 σ' ∧ whileL (fun σ μ => (evE T C σ μ).bind truR) (evB T Bb) m σm1 μ1 = r0, ⟨T.n, φ, G, μ, σm, Ext.refl sb, r, st, hr0⟩, fun m σ1 H1 hw => ?_⟩
  obtain ⟨φ1, G1, μ1, σm1, e1, r1, st1, hl⟩ := hw
  cases m with
  | zero =>
    simp only [whileL] at hl
    subst hl
    exact h.elim
  | succ m =>
    simp only [whileL] at hl
    rw [← hl] at h
    refine ⟨φ1, G1, μ1, σm1, e1.sub, r1, st1, ?_⟩
    have h1 := GoodS.ext h e1
    refine (GoodS.stm st1 h1).imp2 fun k μ2 φ2 G2 H2 e0 e2 r2 q => ?_
    rw [e0] at hl
    simp only [R.stm] at hl
    have st2 := st1.ext e2
    cases k with
    | false =>
      rw [if_neg Bool.false_ne_true] at q ⊢
      exact q.here e2.sub r2 st2
    | true =>
      rw [if_pos rfl] at q hl ⊢
      refine ⟨fun σ' H' => ∃ φ1 G1 μ1 σm1, Ext md.adr φ G H φ1 G1 H' ∧ Rel g φ1 G1 μ1 ∧ RSt g φ1 G1 H' md σm1 σ' ∧ whileL (fun σ μ => (evE T C σ μ).bind truR) (evB T Bb) m σm1 μ1 = r0, fun σ' H' hN => ⟨m, Nat.lt_succ_self m, hN⟩, φ2, G2, μ2, σm1, e2.sub, r2, st2, ?_⟩
      have e02 : Ext md.adr φ G H φ2 G2 H2 := e1.trans e2.weak
      cases hbb : evB T Bb σm1 μ2 with
      | no => rw [hbb] at q; exact q.elim
      | exc x σ3 μ3 => rw [hbb] at q; exact q
      | ok f μ3 =>
        rw [hbb] at q hl
        cases f with
        | ret v => exact q
        | brk σ3 => exact q
        | next σ3 => exact fun φ3 G3 H3 σ' e3 r3 s3 => ⟨φ3, G3, μ3, σ3, e02.trans e3, r3, s3, hl⟩
        | cnt σ3 => exact fun φ3 G3 H3 σ' e3 r3 s3 => ⟨φ3, G3, μ3, σ3, e02.trans e3, r3, s3, hl⟩
theorem RSt.sto {φ : List Addr} {G H : Hp} {σm σm' : Env} {σ σ' : L2.St} {A : E} (h : RSt g φ G H md σm σ) (hb : ∀ i, i ∉ tgSlots A → σm'[i]? = σm[i]?) (en : REnv g φ G md σm' σ') (st : Sto (tgSlots A) σ σ') (hi : ∀ i ∈ tgSlots A, md.ex i = false) : RSt g φ G H md σm' σ' := by
  refine ⟨en, ?_⟩
  have hs := h.self
  cases md with
  | no => trivial
  | hid0 => trivial
  | ini x =>
    have n0 : 0 ∉ tgSlots A := fun z => by
      have := hi 0 z
      simp [Md.ex] at this
    obtain ⟨C, dx, fs, c, vs, Cl, h1, h3, h4, h5, h6⟩ := hs
    exact ⟨C, dx, fs, c, vs, Cl, by rw [st.2 0 n0]; exact h1, h3, h4, by rw [hb 0 n0]; exact h5, h6⟩
  | exc j a cls dd =>
    have n0 : j ∉ tgSlots A := fun z => by
      have := hi j z
      simp [Md.ex] at this
    obtain ⟨c, vs, h1, h2, h3⟩ := hs
    exact ⟨c, vs, by rw [st.2 j n0]; exact h1, by rw [hb j n0]; exact h2, h3⟩
mutual
theorem bind_out : ∀ (A : E) (v : MV) (σ σ' : Env), bindT A v σ = some σ' → ∀ i, i ∉ tgSlots A → σ'[i]? = σ[i]?
  | .var j, v, σ, σ', h, i, hi => by
    simp only [bindT, Option.some.injEq] at h
    subst h
    simp only [tgSlots, List.mem_singleton] at hi
    exact List.getElem?_set_ne (fun z => hi z.symm)
  | .tup ts, v, σ, σ', h, i, hi => by
    simp only [bindT] at h
    split at h
    · split at h
      · simp only [tgSlots] at hi
        exact binds_out ts _ σ σ' h i hi
      · cases h
    · cases h
  | .non, _, _, _, h, _, _ => by simp only [bindT] at h; cases h
  | .bl _, _, _, _, h, _, _ => by simp only [bindT] at h; cases h
  | .int _, _, _, _, h, _, _ => by simp only [bindT] at h; cases h
  | .str _, _, _, _, h, _, _ => by simp only [bindT] at h; cases h
  | .fn _, _, _, _, h, _, _ => by simp only [bindT] at h; cases h
  | .gc _, _, _, _, h, _, _ => by simp only [bindT] at h; cases h
  | .neg _, _, _, _, h, _, _ => by simp only [bindT] at h; cases h
  | .not _, _, _, _, h, _, _ => by simp only [bindT] at h; cases h
  | .bin _ _ _, _, _, _, h, _, _ => by simp only [bindT] at h; cases h
  | .cmp _ _ _, _, _, _, h, _, _ => by simp only [bindT] at h; cases h
  | .cmp2 _ _ _ _ _, _, _, _, h, _, _ => by simp only [bindT] at h; cases h
  | .and _ _, _, _, _, h, _, _ => by simp only [bindT] at h; cases h
  | .or _ _, _, _, _, h, _, _ => by simp only [bindT] at h; cases h
  | .ite _ _ _, _, _, _, h, _, _ => by simp only [bindT] at h; cases h
  | .lst _, _, _, _, h, _, _ => by simp only [bindT] at h; cases h
  | .fld _ _, _, _, _, h, _, _ => by simp only [bindT] at h; cases h
  | .xfld _ _, _, _, _, h, _, _ => by simp only [bindT] at h; cases h
  | .idx _ _, _, _, _, h, _, _ => by simp only [bindT] at h; cases h
  | .slc _ _ _, _, _, _, h, _, _ => by simp only [bindT] at h; cases h
  | .call _ _, _, _, _, h, _, _ => by simp only [bindT] at h; cases h
  | .callv _ _, _, _, _, h, _, _ => by simp only [bindT] at h; cases h
  | .mk _ _, _, _, _, h, _, _ => by simp only [bindT] at h; cases h
  | .bi _ _, _, _, _, h, _, _ => by simp only [bindT] at h; cases h
  | .mth _ _ _, _, _, _, h, _, _ => by simp only [bindT] at h; cases h
  | .omth _ _ _, _, _, _, h, _, _ => by simp only [bindT] at h; cases h
  | .isin _ _, _, _, _, h, _, _ => by simp only [bindT] at h; cases h
  | .comp _ _ _ _ _, _, _, _, h, _, _ => by simp only [bindT] at h; cases h
  | .comp2 _ _ _ _ _ _ _ _ _, _, _, _, h, _, _ => by simp only [bindT] at h; cases h
  | .rng _, _, _, _, h, _, _ => by simp only [bindT] at h; cases h
  | .obin _ _ _, _, _, _, h, _, _ => by simp only [bindT] at h; cases h
  | .oneg _, _, _, _, h, _, _ => by simp only [bindT] at h; cases h
  | .ocmp _ _ _, _, _, _, h, _, _ => by simp only [bindT] at h; cases h
  | .ostr _, _, _, _, h, _, _ => by simp only [bindT] at h; cases h
  | .fmt _, _, _, _, h, _, _ => by simp only [bindT] at h; cases h
  | .fstr _, _, _, _, h, _, _ => by simp only [bindT] at h; cases h
  | .cdx _ _, _, _, _, h, _, _ => by simp only [bindT] at h; cases h
  | .zip _ _, _, _, _, h, _, _ => by simp only [bindT] at h; cases h
  | .enum _, _, _, _, h, _, _ => by simp only [bindT] at h; cases h
theorem binds_out : ∀ (As : List E) (vs : List MV) (σ σ' : Env), bindT.go As vs σ = some σ' → ∀ i, i ∉ tgSlotss As → σ'[i]? = σ[i]?
  | [], [], σ, σ', h, i, _ => by
    simp only [bindT.go, Option.some.injEq] at h
    rw [h]
  | [], _ :: _, _, _, h, _, _ => by simp only [bindT.go] at h; cases h
  | _ :: _, [], _, _, h, _, _ => by simp only [bindT.go] at h; cases h
  | A :: As, v :: vs, σ, σ', h, i, hi => by
    simp only [bindT.go] at h
    obtain ⟨σ1, h1, h2⟩ := Option.bind_eq_some_iff.mp h
    simp only [tgSlotss, List.mem_append, not_or] at hi
    rw [binds_out As vs σ1 σ' h2 i hi.2, bind_out A v σ σ1 h1 i hi.1]
end
theorem sp_for {tg iter : PySem.Expr} {TG IT : E} (hp : PassesOwn (model X.prog X.w) X.A X.env X.xe) (hc : X.calm = true) (hf : notSet iter = true) (hs0 : ∀ i ∈ tgSlots TG, md.ex i = false) (hi : PI X tg iter (tI g T W md IT)) (hg : PG X tg (gB g md TG)) (hb : PSs X b (tR g W md (evB T Bb))) :
    PS X (.For tg iter b [] pos) (tR g W md (evS T (.for TG IT Bb))) := by
  refine ⟨fun pins s σ H D I h => (ps_for hp hc hi hg hb (fold_of hf)).run pins s σ H D I ?_⟩
  obtain ⟨φ, G, μ, σm, sb, r, st, h⟩ := h
  simp only [evS] at h
  rw [← stm_bind (f := fun J μ => itM μ J)] at h
  refine ⟨φ, G, μ, σm, sb, r, st, (h.stm st).imp fun J μ1 φ1 G1 H1 e1 r1 q J' hJ => ?_⟩
  have st1 := st.ext e1
  generalize hr0 : forL J (bindT TG) (evB T Bb) T.n 0 σm μ1 = r0 at q
  refine ⟨fun i m σ' H' => ∃ φ2 G2 μ2 σm2, Ext md.adr φ1 G1 H1 φ2 G2 H' ∧ Rel g φ2 G2 μ2 ∧ RSt g φ2 G2 H' md σm2 σ' ∧ ItR g φ2 G2 J J' ∧ forL J (bindT TG) (evB T Bb) m i σm2 μ2 = r0, ⟨T.n, φ1, G1, μ1, σm, Ext.refl e1.sub, r1, st1, hJ, hr0⟩, fun i m σ2 H2 hw => ?_⟩
  obtain ⟨φ2, G2, μ2, σm2, e2, r2, st2, hJ2, hl⟩ := hw
  cases m with
  | zero =>
    simp only [forL] at hl
    subst hl
    exact q.elim
  | succ m =>
    simp only [forL] at hl
    have q2 := GoodS.ext q e2
    split at hl
    · rename_i x hn
      obtain ⟨hgo, hyld⟩ := it_go r2 e2.sub hJ2 hn
      refine .inr ⟨hgo, fun σ' H' => ∃ φ2 G2 μ2 σm2, Ext md.adr φ1 G1 H1 φ2 G2 H' ∧ Rel g φ2 G2 μ2 ∧ RSt g φ2 G2 H' md σm2 σ' ∧ ItR g φ2 G2 J J' ∧ forL J (bindT TG) (evB T Bb) m (i + 1) σm2 μ2 = r0, fun σ' H' hN => ⟨m, Nat.lt_succ_self m, hN⟩, fun v H3 hy => ?_⟩
      obtain ⟨G3, e3, r3, rx⟩ := hyld v H3 hy
      have st3 := st2.ext e3
      have q3 := GoodS.ext q2 e3.weak
      have e13 : Ext md.adr φ1 G1 H1 φ2 G3 H3 := e2.trans e3.weak
      split at hl
      · rename_i σm3 hbt
        refine ⟨φ2, G3, x, σm2, σm3, e3.sub, rx, st3.env, hbt, fun σ' en' sto => ?_⟩
        have st4 := st3.sto (bind_out TG x σm2 σm3 hbt) en' sto hs0
        refine ⟨φ2, G3, μ2, σm3, e3.sub, r3, st4, ?_⟩
        rw [← hl] at q3
        cases hbb : evB T Bb σm3 μ2 with
        | no => rw [hbb] at q3; exact q3.elim
        | exc x σ3 μ3 => rw [hbb] at q3; exact q3
        | ok f μ3 =>
          rw [hbb] at q3 hl
          cases f with
          | ret v => exact q3
          | brk σ3 => exact q3
          | next σ3 => exact fun φ4 G4 H4 σ' e4 r4 s4 => ⟨φ4, G4, μ3, σ3, e13.trans e4, r4, s4, (hJ2.ext e3).ext e4, hl⟩
          | cnt σ3 => exact fun φ4 G4 H4 σ' e4 r4 s4 => ⟨φ4, G4, μ3, σ3, e13.trans e4, r4, s4, (hJ2.ext e3).ext e4, hl⟩
      · rw [← hl] at q3
        exact q3.elim
    · rename_i hn
      rw [← hl] at q2
      exact .inl ⟨it_stop r2 e2.sub hJ2 hn, q2.here e2.sub r2 st2⟩
    · rw [← hl] at q2
      exact q2.elim
/-! ### assignments -/
def GoodA (g : Glob) (md : Md) (φ : List Addr) (G H : Hp) (Q : L2.St → Hp → Prop) : R Env → Prop
  | .ok σm μ => ∀ φ1 G1 H1 σ', Ext md.adr φ G H φ1 G1 H1 → Rel g φ1 G1 μ → RSt g φ1 G1 H1 md σm σ' → Q σ' H1
  | _ => False
theorem GoodA.ext {φ φ1 : List Addr} {G G1 H H1 : Hp} {Q : L2.St → Hp → Prop} {r : R Env} (h : GoodA g md φ G H Q r) (e : Ext md.adr φ G H φ1 G1 H1) : GoodA g md φ1 G1 H1 Q r := by
  cases r with
  | ok σm μ => exact fun φ2 G2 H2 σ' e2 r2 s2 => h φ2 G2 H2 σ' (e.trans e2) r2 s2
  | _ => exact h
def gA (g : Glob) (T : Tab) (md : Md) (A : E) : TG := fun v σ H Q => ∃ φ G μ x σm, Sub G H ∧ Rel g φ G μ ∧ RV g φ G x v ∧ RSt g φ G H md σm σ ∧ GoodA g md φ G H Q (asgT T A x σm μ)
def gAs (g : Glob) (T : Tab) (md : Md) (As : List E) : TGs := fun vs σ H Q => ∃ φ G μ xs σm, Sub G H ∧ Rel g φ G μ ∧ RVs g φ G xs vs ∧ RSt g φ G H md σm σ ∧ GoodA g md φ G H Q (asgT.go T As xs σm μ)
theorem ga_var {i : Nat} {x : Str} (hN : X.N.Nodup) (hi : X.N[i]? = some x) (hx : Loc X.env.scope x) (hf : X.fn x = true ∨ X.env.scope.names.lookup x = some .local) (h0 : md.ex i = false) : PG X (.Name x pos) (gA g T md (.var i)) := by
  refine ⟨fun pins s σ H v u Q I r h => (pg_name hN hi hx hf).run pins s σ H v u Q I r ?_⟩
  obtain ⟨φ, G, μ, x, σm, sb, rl, rv, st, h⟩ := h
  simp only [asgT] at h
  exact h φ G H _ (Ext.refl sb) rl (st.set rv h0)
theorem gas_nil : PGs X [] (gAs g T md []) := by
  refine ⟨fun pins s σ H vs us Q I r h => pgs_nil.run pins s σ H vs us Q I r ?_⟩
  obtain ⟨φ, G, μ, xs, σm, sb, rl, rv, st, h⟩ := h
  cases xs with
  | nil =>
    simp only [RVs] at rv
    simp only [asgT.go] at h
    exact ⟨rv, h φ G H _ (Ext.refl sb) rl st⟩
  | cons x xs => simp only [asgT.go] at h; exact h.elim
theorem gas_cons {t : PySem.Expr} {ts : List PySem.Expr} {A : E} {As : List E} (hp : plain t = true) (h1 : PG X t (gA g T md A)) (h2 : PGs X ts (gAs g T md As)) : PGs X (t :: ts) (gAs g T md (A :: As)) := by
  refine ⟨fun pins s σ H vs us Q I r h => (pgs_cons h1 h2 (by rw [assign_cons hp]; rfl)).run pins s σ H vs us Q I r ?_⟩
  obtain ⟨φ, G, μ, xs, σm, sb, rl, rv, st, h⟩ := h
  cases xs with
  | nil => simp only [asgT.go] at h; exact h.elim
  | cons x xs =>
    simp only [RVs] at rv
    obtain ⟨v, vr, rfl, hv, hr⟩ := rv
    simp only [asgT.go] at h
    refine ⟨v, vr, rfl, φ, G, μ, x, σm, sb, rl, hv, st, ?_⟩
    cases e0 : asgT T A x σm μ with
    | ok σ1 μ1 =>
      rw [e0] at h
      exact fun φ1 G1 H1 σ' e1 r1 s1 => ⟨φ1, G1, μ1, xs, σ1, e1.sub, r1, hr.ext e1, s1, GoodA.ext (r := asgT.go T As xs σ1 μ1) h e1⟩
    | exc x' μ1 => rw [e0] at h; exact h.elim
    | no => rw [e0] at h; exact h.elim
theorem ga_tup {ts : List PySem.Expr} {As : List E} {j : Nat} (hc : X.calm = true) (hK : g.K = X.K) (hp : ts.all plain = true) (hl : ts.length = As.length) (h : PGs X ts (gAs g T md As)) : PG X (.Tuple ts j pos) (gA g T md (.tup As)) := by
  obtain ⟨a1, a2⟩ := assign_len (env := X.env) hp
  refine ⟨fun pins s σ H v u Q I r hh => ?_⟩
  obtain ⟨φ, G, μ, x, σm, sb, rl, rv, st, hh⟩ := hh
  simp only [asgT] at hh
  split at hh
  · rename_i xs
    split at hh
    · rename_i hlen
      refine (pg_tup hc h rfl a2).run pins s σ H v u Q I r ?_
      simp only [RV] at rv
      obtain ⟨a, vs, rfl, hq, hr⟩ := rv
      rw [hK] at hq
      exact ⟨a, vs, rfl, sqT_sub sb hq, by rw [a1, hl, ← hr.len, hlen], φ, G, μ, xs, σm, sb, rl, hr, st, hh⟩
    · exact hh.elim
  · split at hh
    · rename_i i xs e
      split at hh
      · rename_i hlen
        refine (pg_lst hc h rfl a2).run pins s σ H v u Q I r ?_
        obtain ⟨a, vs, rfl, _, hq, hr⟩ := rl.ref e rv
        rw [hK] at hq
        exact ⟨a, vs, rfl, sqL_sub sb hq, by rw [a1, hl, ← hr.len, hlen], φ, G, μ, xs, σm, sb, rl, hr, st, hh⟩
      · exact hh.elim
    · exact hh.elim
  · exact hh.elim
/-- xs[i] = v by values, whatever -/
def rSetM (g : Glob) : TSet := fun o i v H Q => ∃ φ G μ x y z, Sub G H ∧ Rel g φ G μ ∧ RV g φ G x o ∧ RV g φ G y i ∧ RV g φ G z v ∧ Good g W0 [] φ G H (setM μ x y z) fun _ _ _ _ H1 => Q H1
theorem set_noX {μ : Mem} {x y z : MV} (x' : MX) (μ' : Mem) : setM μ x y z ≠ .exc x' μ' := by
  unfold setM
  split
  · split
    · split <;> simp
    · simp
  · simp
theorem setR_ok : PSet X (rSetM g) := by
  intro pins s σ H o i v ov iv u Q I ro ri rv h
  obtain ⟨φ, G, μ, x, y, z, sb, r, rx, ry, rz, h⟩ := h
  exact set_ok (W := W0) I r sb (h.noX fun x' μ' => set_noX x' μ') rx ry rz ro ri rv
theorem asg_sub {o i : PySem.Expr} {env : PySem.Env} (h : notSlice i = true) (v : Value) : assign (.Subscript o i pos) env v = (do
      let ov ← holding [v] (eval o env)
      let iv ← holding [v, ov] (eval i env)
      standAt pos
      holding [v, ov, iv] (setItem ov iv v)
      release [v, ov, iv] []) := by
  cases i <;> first | rfl | cases h
theorem ga_idx {o i : PySem.Expr} {O B : E} (hn : notSlice i = true) (ho : PE X o (tE g T W md O)) (hi : PE X i (tE g T W md B)) : PG X (.Subscript o i pos) (gA g T md (.idx O B)) := by
  refine ⟨fun pins s σ H v u Q I r h => (pg_sub ho hi (setR_ok (g := g)) (asg_sub hn)).run pins s σ H v u Q I r ?_⟩
  obtain ⟨φ, G, μ, x, σm, sb, rl, rv, st, h⟩ := h
  simp only [asgT] at h
  cases e0 : evE T O σm μ with
  | no => rw [e0] at h; exact h.elim
  | exc x' μ1 => rw [e0] at h; exact h.elim
  | ok y μ1 =>
    rw [e0] at h
    simp only [R.bind] at h
    cases e1 : evE T B σm μ1 with
    | no => rw [e1] at h; exact h.elim
    | exc x' μ2 => rw [e1] at h; exact h.elim
    | ok z μ2 =>
      rw [e1] at h
      simp only at h
      cases e2 : setM μ2 y z x with
      | no => rw [e2] at h; exact h.elim
      | exc x' μ3 => rw [e2] at h; exact h.elim
      | ok _ μ3 =>
        rw [e2] at h
        simp only at h
        refine ⟨φ, G, μ, σm, sb, rl, st, good_ok e0 fun φ1 G1 H1 x1 r1 w hw => ⟨φ1, G1, μ1, σm, x1.sub, r1, st.ext x1, good_ok e1 fun φ2 G2 H2 x2 r2 w2 hw2 => ?_⟩⟩
        refine ⟨φ2, G2, μ2, y, z, x, x2.sub, r2, hw.ext x2, hw2, (rv.ext x1).ext x2, ?_⟩
        refine good_ok e2 fun φ3 G3 H3 x3 r3 => ?_
        exact h φ3 G3 H3 σ ((x1.trans x2).trans x3).weak r3 (((st.ext x1).ext x2).ext x3)
theorem assign1 {t : PySem.Expr} {env : PySem.Env} (h : plain t = true) : (assignEach [t] env).map (·.2) = [assign t env] := by
  rw [assign_cons h]
  rfl
def notSeq : PySem.Expr → Bool
  | .Tuple _ _ _ => false
  | .List _ _ => false
  | _ => true
theorem sw_none {t : PySem.Expr} {env : PySem.Env} (h : notSeq t = true ∨ notSeq e = true) : swappedStores [t] e env = pure none := by
  unfold swappedStores
  split
  · rename_i h2
    exfalso
    split at h2
    · rename_i heq
      rcases h with h | h
      · simp only [List.cons.injEq, and_true] at heq
        subst heq
        cases h
      · cases h
    · rename_i heq
      rcases h with h | h
      · simp only [List.cons.injEq, and_true] at heq
        subst heq
        cases h
      · cases h
    · cases h2
  · rfl
theorem sp_asg {t : PySem.Expr} {TT : E} (hn : notComp e = true) (hp : plain t = true) (hw : swappedStores [t] e X.env = pure none) (he : PE X e (tE g T W md A)) (hg : PG X t (gA g T md TT)) : PS X (.Assign [t] e pos) (tR g W md (evS T (.asg TT A))) := by
  refine ⟨fun pins s σ H D I h => (ps_asg he hg (swaps_no hn) hw (assign1 hp)).run pins s σ H D I ?_⟩
  obtain ⟨φ, G, μ, σm, sb, r, st, h⟩ := h
  simp only [evS] at h
  refine ⟨φ, G, μ, σm, sb, r, st, (h.stm st).imp fun v μ1 φ1 G1 H1 e1 r1 k w hw => ⟨φ1, G1, μ1, v, σm, e1.sub, r1, hw, st.ext e1, ?_⟩⟩
  cases e0 : asgT T TT v σm μ1 with
  | ok σ1 μ2 => rw [e0] at k; exact k
  | exc x' μ2 => rw [e0] at k; exact k.elim
  | no => rw [e0] at k; exact k.elim
end
end Mch

/-! ## try with several clauses, each with a name or without -/
namespace Mch
open PySem PySem.Spec PyProof.Rows L2
/-- how a suite goes on behind its clause: the name is unbound -/
def outOf (n : Option Nat) (D : Ends) : Ends := match n with
  | none => D
  | some i => { nx := fun σ H => D.nx (σ.set i none) H, rt := D.rt, bk := fun σ H => D.bk (σ.set i none) H, ct := fun σ H => D.ct (σ.set i none) H }
def intoS (n : Option Nat) (a : Addr) (σ : L2.St) : L2.St := match n with
  | none => σ
  | some i => σ.set i (some (.ref a))
/-- a clause: its class, its name's slot, its suite -/
structure Clause where
  c : Value
  n : Option Nat
  ts : Addr → Value → Option Addr → TS
def wCl (K : PySem.W.Frag) (Wout : WX) (D : Ends) : List Clause → WX
  | [] => Wout
  | l :: r => fun cls d σ H => ∃ b, PySem.W.exmOne K cls l.c = some b ∧ (b = true → ∀ a, H a = none → l.ts a cls d (outOf l.n D) (intoS l.n a σ) H) ∧ (b = false → wCl K Wout D r cls d σ H)
/-- how a clause's name is written -/
def NameAt (X : Cx) : Option Str → Option Nat → Prop
  | none, none => True
  | some n, some i => X.N[i]? = some n ∧ X.env.kindOf n = some .local
  | _, _ => False
inductive Clauses (X : Cx) : List ExceptHandler → List Clause → Prop
  | nil : Clauses X [] []
  | cons {x : Str} {n : Option Str} {l : Clause} {b₀ : Stmt} {suite : List Stmt} {np pos' : Pos} {hds : List ExceptHandler} {ls : List Clause} (hc : Names X x l.c) (hn : NameAt X n l.n)
      (hsu : ∀ (a : Addr) (oe : Obj) (cls : Value) (d : Option Addr) (pn : List (Addr × Obj)), Zc cls d oe → (∃ vs, oe.data = .fields vs) → PSs (X.suite a ((a, oe) :: pn)) (b₀ :: suite) (l.ts a cls d)) (r : Clauses X hds ls) :
      Clauses X (.ExceptHandler (some (.Name x np)) n (b₀ :: suite) pos' :: hds) (l :: ls)
section
variable {X : Cx} {body : List Stmt} {h₀ : ExceptHandler} {hds : List ExceptHandler} {ls : List Clause} {pos : Pos} {tb : WX → TS} {Wout : WX}
theorem sp_flow {pins : List (Addr × Obj)} {D : Ends} {f : Flow} {s1 : Shared} {pn : List (Addr × Obj)} {xe : Value → Shared → Prop} (ok : X.Ok) (h : SP (X.tr (X.pn ++ pins) xe) [] D f s1) : SP X pins D f s1 := by
  cases f with
  | next => exact let ⟨σ, H, J, q⟩ := h; ⟨σ, H, J.ofTry ok, q⟩
  | brk => exact let ⟨σ, H, J, q⟩ := h; ⟨σ, H, J.ofTry ok, q⟩
  | cont => exact let ⟨σ, H, J, q⟩ := h; ⟨σ, H, J.ofTry ok, q⟩
  | ret u => exact let ⟨v, σ, H, J, r, q⟩ := h; ⟨v, σ, H, J.ofTry ok, r, q⟩
theorem sp_un {pins : List (Addr × Obj)} {D : Ends} {f : Flow} {s1 : Shared} {a : Addr} {oe : Obj} (ok : X.Ok) (h : SP (X.suite a ((a, oe) :: (X.pn ++ pins))) [] D f s1) : SP X pins D f s1 := by
  cases f with
  | next => exact let ⟨σ, H, J, q⟩ := h; ⟨σ, H, J.unsuite ok, q⟩
  | brk => exact let ⟨σ, H, J, q⟩ := h; ⟨σ, H, J.unsuite ok, q⟩
  | cont => exact let ⟨σ, H, J, q⟩ := h; ⟨σ, H, J.unsuite ok, q⟩
  | ret u => exact let ⟨v, σ, H, J, r, q⟩ := h; ⟨v, σ, H, J.unsuite ok, r, q⟩
/-- the exception at a has landed: the clauses are asked in turn -/
theorem clauses_ok {pins : List (Addr × Obj)} {σ' : L2.St} {H' : Hp} {sI s' : Shared} {B h3 : Heap} {a : Addr} {cls : Value} {d : Option Addr} {D : Ends} (hst : X.stack = X.env :: X.outer) (hf : X.env.frame = some X.env.locals) (hN : X.N.Nodup) (tk : Takes X Wout)
    (J : Inv X pins σ' H' sI) (nb : ∀ b o, sI.heap.get? b = some o → b ∉ frs X.stack → B.get? b = some o) (up3 : sI.heap.UpToSlots h3) (fl3 : HandSPX.FlyingZ B (X.env :: X.outer) a (Zc cls d) h3) (na : H' a = none) (os : s'.os = sI.os) (ag : AllBare s'.gens) :
    ∀ {hds : List ExceptHandler} {ls : List Clause}, Clauses X hds ls → wCl X.K Wout D ls cls d σ' H' → wpAny (model X.prog X.w) X.A (handleBy (.ref a) X.env hds) (SP X pins D) X.xe { s' with heap := h3 } := by
  have ok := J.ok
  have J3 : Inv X pins σ' H' { s' with heap := h3 } := J.landed nb fl3.1 up3 os ag
  obtain ⟨oe3, vs3, he3, hz3, hd3⟩ := fl3.there
  have nfr : a ∉ frs (X.env :: X.outer) := fun hm => by
    obtain ⟨_, o, e, hno⟩ := fl3.2.2.1.mem hm
    rw [he3] at e
    cases e
    exact hno _ hd3
  have nL : a ≠ X.env.locals := fun z => nfr (List.mem_filterMap.mpr ⟨X.env, List.mem_cons_self, by rw [hf, z]⟩)
  have nF : a ∉ X.fs := fun hm => by
    obtain ⟨e, he, q⟩ := List.mem_filterMap.mp hm
    exact nfr (List.mem_filterMap.mpr ⟨e, List.mem_cons_of_mem _ he, q⟩)
  have S3 := J3.suite he3 hd3 na nL nF
  intro hds ls hk
  induction hk with
  | nil =>
    intro w
    refine wpAny_handleBy_nil ?_
    obtain ⟨k1, k2, k3, oe, vs, TT, oT, ts', he, hz, hd, h1, hr⟩ := _root_.id fl3
    unfold PySem.passOn
    refine wpAny_bind (wpAny_field he hd h1 ?_)
    rw [if_neg (show ¬ ((Value.ref TT == Value.none) = true) from by simp)]
    have fin : wpAny (model X.prog X.w) X.A (setFlight (.ref a) X.env.frame) (fun _ s4 => wpAny (model X.prog X.w) X.A (throw (.ref a) : Sem Flow) (SP X pins D) X.xe s4) X.xe { s' with heap := h3 } := by
      rw [hf]
      refine HandSPX.setFlight_upZ fl3 fun h4 hh4 up4 => wpAny_throw (tk _ _ ?_)
      exact ⟨a, B, sI, pins, σ', H', cls, d, rfl, J, nb, up3.trans up4, .inr (.inr (by rw [hst]; exact hh4)), na, os, ag, w⟩
    first
      | exact wpAny_bind (wpAny_pure (wpAny_bind fin))
      | exact wpAny_bind fin
  | @cons x n l b₀ suite np pos' hds2 ls2 hc hn hsu r ih =>
    intro w
    obtain ⟨b, hb1, hyes, hno⟩ := w
    refine wpAny_handleBy_cons (codeAny_handlers_test ?_) (by intro q; cases q)
    have LT : PySem.W.Looks (model X.prog X.w) h3 (typeOf (.ref a)) cls := fun A Q E s k q => wpAny_typeOf_ref (k _ _ he3) (by rw [hz3.1]; exact q)
    have LM := PySem.W.exm_one (M := model X.prog X.w) (J3.kIn) LT hb1
    have look : ∀ {Q : Value → Shared → Prop} {E : Value → Shared → Prop}, Q l.c { s' with heap := h3 } → wpAny (model X.prog X.w) (X.A.mark (some (.ref a))) (eval (.Name x np) X.env) Q E { s' with heap := h3 } := fun {Q E} q => by
      obtain ⟨hg, hdbg, hm | ⟨hm, hv, hnn⟩⟩ := hc
      · exact ld_glob (X := X.suite a ((a, oe3) :: (X.pn ++ pins))) S3 hg hm q hdbg
      · exact ld_blt (X := X.suite a ((a, oe3) :: (X.pn ++ pins))) S3 hg hm hv q hnn hdbg
    refine look (LM.here ?_)
    cases b with
    | false =>
      show wpAny _ X.A (handleBy (.ref a) X.env hds2) _ _ _
      exact ih (hno rfl)
    | true =>
      have body := hyes rfl a na
      obtain ⟨lc, ln, lts⟩ := l
      cases n with
      | none =>
        cases ln with
        | some i => exact hn.elim
        | none =>
          refine codeAny_handlers_suite ?_
          refine HandSPX.lands_againZ fl3 fun h4 fl4 up4 => ?_
          have J4 : Inv X pins σ' H' { s' with heap := h4 } := J.landed nb fl4.1 (up3.trans up4) os ag
          obtain ⟨oe4, vs4, he4, hz4, hd4⟩ := fl4.there
          have S4 := J4.suite he4 hd4 na nL nF
          exact wpAny_mono ((hsu a oe4 cls d (X.pn ++ pins) hz4 ⟨_, hd4⟩).run [] _ _ H' _ S4 body) (fun f s6 hsp => sp_un ok hsp) (fun _ _ z => False.elim z)
      | some n =>
        cases ln with
        | none => exact hn.elim
        | some i =>
          obtain ⟨hi, hln⟩ := hn
          refine codeAny_handlers_suite_as ?_
          refine HandSPX.lands_againZ fl3 fun h4 fl4 up4 => ?_
          have J4 : Inv X pins σ' H' { s' with heap := h4 } := J.landed nb fl4.1 (up3.trans up4) os ag
          obtain ⟨oe4, vs4, he4, hz4, hd4⟩ := fl4.there
          have S4 := J4.suite he4 hd4 na nL nF
          refine store_ok (X := X.suite a ((a, oe4) :: (X.pn ++ pins))) (v := .ref a) S4 hN hi (.inl hln) rfl (fun s5 S5 => ?_) (.inr hln)
          refine wpAny_mono ((hsu a oe4 cls d (X.pn ++ pins) hz4 ⟨_, hd4⟩).run [] s5 _ H' _ S5 body) (fun f s6 hsp => ?_) (fun _ _ z => False.elim z)
          have gone : ∀ {σ6 : L2.St} {H6 : Hp} {Q : Shared → Prop}, Inv (X.suite a ((a, oe4) :: (X.pn ++ pins))) [] σ6 H6 s6 → (∀ s7, Inv X pins (σ6.set i none) H6 s7 → Q s7) →
              wpAny (model X.prog X.w) X.A (do bindName X.env n .none; unbindBehindTheSuite X.env n pos') (fun _ s7 => Q s7) X.xe s6 := fun {σ6 H6 Q} S6 hq => gone_ok (S6.unsuite ok) hN hi hln hq
          cases f with
          | next => exact let ⟨σ6, H6, S6, q6⟩ := hsp; gone S6 fun s7 J7 => ⟨_, _, J7, q6⟩
          | brk => exact let ⟨σ6, H6, S6, q6⟩ := hsp; gone S6 fun s7 J7 => ⟨_, _, J7, q6⟩
          | cont => exact let ⟨σ6, H6, S6, q6⟩ := hsp; gone S6 fun s7 J7 => ⟨_, _, J7, q6⟩
          | ret u => exact let ⟨v6, σ6, H6, S6, r6, q6⟩ := hsp; gone S6 fun s7 J7 => ⟨_, _, _, J7, r6, q6⟩
theorem ps_clauses (hst : X.stack = X.env :: X.outer) (hf : X.env.frame = some X.env.locals) (hN : X.N.Nodup) (tk : Takes X Wout)
    (hb : ∀ (W : WX) (pn : List (Addr × Obj)) (xe : Value → Shared → Prop), Takes (X.tr pn xe) W → PassesOwn (model X.prog X.w) X.A X.env xe → PSs (X.tr pn xe) body (tb W))
    (hh : Clauses X (h₀ :: hds) ls) : PS X (.Try body (h₀ :: hds) [] [] pos) (fun D σ H => tb (wCl X.K Wout D ls) D σ H) := by
  refine ⟨fun pins s σ H D I h => ?_⟩
  have ok := I.ok
  have hfr : X.A.frames = some (X.env :: X.outer) := by rw [ok.frames, hst]
  refine wpAny_Try_except ?_
  refine wpAny_mono ((hb (wCl X.K Wout D ls) (X.pn ++ pins) (fun e s₁ => wpAny (model X.prog X.w) X.A (noteFrame e X.env) (fun _ s₂ => wpAny (model X.prog X.w) X.A (setFlight e none) (fun _ s₃ =>
    wpAny (model X.prog X.w) X.A (handleBy e X.env (h₀ :: hds)) (SP X pins D) X.xe s₃) X.xe s₂) X.xe s₁) (fun u s' xx => ?_) PassesOwn.looking).run [] s σ H D (I.toTry _) h) (fun f s1 hsp => ?_) (fun e s1 he => he)
  · obtain ⟨a, B, sI, pins', σ', H', cls, d, rfl, J', nb, up, sky, na, os, ag, w⟩ := xx
    have J : Inv X pins σ' H' sI := J'.ofTry ok
    rw [show (X.tr (X.pn ++ pins) _).stack = X.env :: X.outer from hst] at sky
    refine Sky.land Zc.steady hfr hf sky fun h3 fl3 up3 => ?_
    exact clauses_ok hst hf hN tk J nb (up.trans up3) fl3 na os ag hh w
  · have hsp' : SP X pins D f s1 := sp_flow (pn := []) ok hsp
    cases f with
    | next => exact wpAny_execs_nil hsp'
    | brk => exact hsp'
    | cont => exact hsp'
    | ret u => exact hsp'
end
end Mch

/-! ## Raising, catching, several names at once, comprehensions stored -/
namespace Mch
open PySem PySem.Spec PyProof.Rows L2
/-- what the head says of the classes of exceptions -/
structure ExcG (g : Glob) : Prop where
  exm : ∀ c d C D Cl Dl, g.cA c = some C → g.cA d = some D → g.P.clss[c]? = some Cl → g.P.clss[d]? = some Dl → Cl.exc = true → Dl.exc = true → PySem.W.exmOne g.K (.ref C) (.ref D) = some (decide (d ∈ Cl.up))
  fld : ∀ c C Cl, g.cA c = some C → g.P.clss[c]? = some Cl → Cl.exc = true → XfC g.K C ∧ ∀ f ∈ Cl.fields, PySem.W.findIn g.K (.ref C) f = some none
  own : ∀ c C Cl, g.cA c = some C → g.P.clss[c]? = some Cl → Cl.exc = true → PySem.W.keepIn g.K (.ref C) = true ∧ PySem.W.subIn g.K (.ref C) (.type "BaseException") = some true ∧ PySem.W.typeIn g.K (.ref C) = some (.type "type")
  new : ∀ c C Cl, g.cA c = some C → g.P.clss[c]? = some Cl → Cl.exc = true → Cl.fields = [] → PySem.W.excIn g.K C He.veBase "ValueError.__new__" = true
section
variable {X : Cx} {g : Glob} {T : Tab} {W : WX} {md : Md} {pos : Pos} {e c : PySem.Expr} {A C : E} {a b : List Stmt} {Ab Bb : List S}
/-! ### raise X('..') -/
theorem sp_raise0 {x m : Str} {j ci : Nat} {Ca : Addr} {Cl : ClsM} {p p2 pos' : Pos} (hc : X.calm = true) (tk : Takes X W) (hE : ExcG g) (hT : T.P = g.P) (hK : g.K = X.K) (hA : g.cA ci = some Ca) (hl : g.P.clss[ci]? = some Cl) (hx : Cl.exc = true) (hf : Cl.fields = [])
    (hg : Gl X x) (hm : X.mg x = some (.ref Ca)) (hdb : (x == ("__debug__" : Str)) = false) :
    PS X (.Raise (some (.Call (.Name x p) [.Constant (.str m) j p2] [] pos')) none pos) (tR g W md (evS T (.raise ci [.str m]))) := by
  obtain ⟨h1, h2, h3⟩ := hE.own ci Ca Cl hA hl hx
  have h4 := hE.new ci Ca Cl hA hl hx hf
  rw [hK] at h1 h2 h3 h4
  refine ⟨fun pins s σ H D I h => (ps_raise hc tk (pmk_own PySem.F.excBase_ValueError h4 hm h1 (raises_own h2 h3) hg hdb)).run pins s σ H D I ?_⟩
  obtain ⟨φ, G, μ, σm, sb, r, st, h⟩ := h
  simp only [evS, evEs, evE, R.bind, R.stm] at h
  have hmk : mkX T.P ci [.str m] = some ⟨ci, []⟩ := by
    unfold mkX
    rw [hT, hl]
    simp only [hf]
  rw [hmk] at h
  exact h φ G H σ (Ext.refl sb) r st _ _ ⟨Ca, Cl, hA, hl, rfl, .inl ⟨rfl, hf, rfl⟩⟩
/-! ### the exception's field in a suite -/
theorem sx_fld {i : Nat} {f n : Str} {p : Pos} {aa : Addr} {oe : Obj} {cls : Value} {d : Option Addr} {pn : List (Addr × Obj)} (hE : ExcG g) (hT : T.P = g.P) (hK : g.K = X.K) (hz : Zc cls d oe) (hf : ∃ vs, oe.data = .fields vs)
    (he : PE (X.suite aa ((aa, oe) :: pn)) (.Name n p) (tVar i)) : PE (X.suite aa ((aa, oe) :: pn)) (.Attribute (.Name n p) f pos) (tE g T W0 (.exc i aa cls d) (.xfld i f)) := by
  refine ⟨fun pins s σ H Q I h => ?_⟩
  obtain ⟨φ, G, μ, σm, sb, r, st, h⟩ := h
  obtain ⟨c, vs, h1, h2, C, Cl, h3, h4, h5, h6⟩ := st.self
  simp only [evE, h2] at h
  obtain ⟨z, hzz, q⟩ := Good.opt h sb r
  rw [hT] at hzz
  have h4' : g.P.clss[c]? = some Cl := h4
  rw [h4'] at hzz
  simp only [Option.bind_some] at hzz
  split at hzz
  · cases hzz
  · rename_i hex
    obtain ⟨jj, e1, e2⟩ := Option.bind_eq_some_iff.mp hzz
    rcases h6 with ⟨h7, h8, h9⟩ | ⟨dd, fs, h7, h8, h9, h10, h11⟩
    · rw [h8] at e1
      cases e1
    · have hex' : Cl.exc = true := by simpa using hex
      obtain ⟨x1, x2⟩ := hE.fld c C Cl h3 h4 hex'
      obtain ⟨u, e3, e4⟩ := h11.get e2
      rw [← h10] at e1
      have hff : f ∈ Cl.fields := by
        rw [← h10]
        exact List.isSome_idxOf?.mp (by rw [e1]; rfl)
      have x3 := x2 f hff
      rw [hK] at x1 x3
      refine (pe_xf x1 x3 hz hf he).run pins s σ H Q I ⟨.ref aa, h1, rfl, h5, dd, fs, u, h7, h8, idx_lookup e1 e3, q u e4⟩
/-! ### two, three names at once -/
def swK (sc : Scope) (ts vs : List PySem.Expr) : Option (Option (List Str)) :=
  if (!(ts.length == 2 || ts.length == 3) || vs.length != ts.length) = true then some none
  else if (vs.any fun | .Starred .. => true | _ => false) = true then some none
  else
    let line := (ts.head?.map (·.pos.line)).getD 0
    let names := ts.filterMap fun
      | .Name id pos => if sc.names.lookup id == some .local && pos.line == line then some id else none
      | _ => none
    if (names.length != ts.length || names.eraseDups.length != names.length) = true then some none
    else if vs.all (foldedForSure 8) = true then some none
    else if vs.all (constantsAlone 8) = true then none
    else some (some names)
theorem swK_ok {sc : Scope} {ts vs : List PySem.Expr} {r : Option (List Str)} {env : PySem.Env} {k k2 : Nat} {p p2 : Pos} (hs : env.scope = sc) (hb : env.blockKind = .function) (h : swK sc ts vs = some r) : swappedStores [.Tuple ts k p] (.Tuple vs k2 p2) env = pure r := by
  subst hs
  unfold swK at h
  unfold swappedStores
  have e0 : (ScopeKind.function != ScopeKind.function) = false := by decide
  by_cases c1 : (!(ts.length == 2 || ts.length == 3) || vs.length != ts.length) = true
  · rw [if_pos c1] at h
    cases h
    exact if_pos (by rw [hb, e0, Bool.or_false]; exact c1)
  rw [if_neg c1] at h
  refine Eq.trans (if_neg (by rw [hb, e0, Bool.or_false]; exact c1)) ?_
  split at h
  · rename_i c2
    cases h
    exact if_pos c2
  rename_i c2
  refine Eq.trans (if_neg c2) ?_
  simp only at h
  split at h
  · rename_i c3
    cases h
    exact if_pos c3
  rename_i c3
  refine Eq.trans (if_neg c3) ?_
  split at h
  · rename_i c4
    cases h
    exact if_pos c4
  rename_i c4
  refine Eq.trans (if_neg c4) ?_
  split at h
  · cases h
  rename_i c5
  cases h
  exact if_neg c5
/-! ### two, three at once -/
theorem evEs2 {σm : Env} {μ : Mem} {A B : E} {as : List MV} {μ1 : Mem} (h : evEs T [A, B] σm μ = .ok as μ1) : ∃ x y, as = [x, y] := by
  have hl := evEs_len h
  match as, hl with
  | [x, y], _ => exact ⟨x, y, rfl⟩
theorem evEs3 {σm : Env} {μ : Mem} {A B C : E} {as : List MV} {μ1 : Mem} (h : evEs T [A, B, C] σm μ = .ok as μ1) : ∃ x y z, as = [x, y, z] := by
  have hl := evEs_len h
  match as, hl with
  | [x, y, z], _ => exact ⟨x, y, z, rfl⟩
theorem sp_par2 {i j : Nat} {x y : Str} {a b : PySem.Expr} {A B : E} {px py pt : Pos} {kt k2 pt2} (hc : X.calm = true) (hN : X.N.Nodup) (hi : X.N[i]? = some x) (hj : X.N[j]? = some y) (hij : i ≠ j) (h1 : md.ex i = false) (h2 : md.ex j = false)
    (hx : X.env.scope.names.lookup x = some .local) (hy : X.env.scope.names.lookup y = some .local) (ha : PA X [a, b] (tEs g T W md [A, B]))
    (hw : swappedStores [.Tuple [.Name x px, .Name y py] kt pt] (.Tuple [a, b] k2 pt2) X.env = pure (some [x, y])) :
    PS X (.Assign [.Tuple [.Name x px, .Name y py] kt pt] (.Tuple [a, b] k2 pt2) pos) (tR g W md (evS T (.asg (.tup [.var i, .var j]) (.tup [A, B])))) := by
  refine ⟨fun pins s σ H D I h => (ps_par hc hN hi hj hij hx hy ha hw).run pins s σ H D I ?_⟩
  obtain ⟨φ, G, μ, σm, sb, r, st, h⟩ := h
  simp only [evS, evE] at h
  refine ⟨φ, G, μ, σm, sb, r, st, ?_⟩
  cases e0 : evEs T [A, B] σm μ with
  | no => rw [e0] at h; exact h
  | exc x' μ1 => rw [e0] at h; exact fun φ1 G1 H1 e1 r1 => h φ1 G1 H1 σ e1.weak r1 (st.ext e1)
  | ok xs μ1 =>
    obtain ⟨u, v, rfl⟩ := evEs2 e0
    rw [e0] at h
    have hz : newT [u, v] μ1 = .ok (.tup [u, v]) μ1 := if_pos (by show 2 ≤ sizeLine; decide)
    simp only [R.bind, hz, R.stm, asgT, asgT.go, List.length_cons, List.length_nil, if_true, R.calm] at h
    intro φ1 G1 H1 e1 r1 ws hws
    obtain ⟨w1, w2, rfl, q1, q2⟩ := hws.two
    exact ⟨w1, w2, rfl, h φ1 G1 H1 _ e1.weak r1 (((st.ext e1).set q1 h1).set q2 h2)⟩
theorem RVs.three {φ : List Addr} {G : Hp} {x y z : MV} {vs : List V} (h : RVs g φ G [x, y, z] vs) : ∃ u v w, vs = [u, v, w] ∧ RV g φ G x u ∧ RV g φ G y v ∧ RV g φ G z w := by
  simp only [RVs] at h
  obtain ⟨v, r, rfl, h1, w, r, rfl, h2, u, r, rfl, h3, rfl⟩ := h
  exact ⟨v, w, u, rfl, h1, h2, h3⟩
theorem sp_par3 {i j l : Nat} {x y z : Str} {a b c : PySem.Expr} {A B C : E} {px py pz pt : Pos} {kt k2 pt2} (hc : X.calm = true) (hN : X.N.Nodup) (hi : X.N[i]? = some x) (hj : X.N[j]? = some y) (hl : X.N[l]? = some z) (hij : i ≠ j) (hil : i ≠ l) (hjl : j ≠ l) (h1 : md.ex i = false) (h2 : md.ex j = false) (h3 : md.ex l = false)
    (hx : X.env.scope.names.lookup x = some .local) (hy : X.env.scope.names.lookup y = some .local) (hz : X.env.scope.names.lookup z = some .local) (ha : PA X [a, b, c] (tEs g T W md [A, B, C]))
    (hw : swappedStores [.Tuple [.Name x px, .Name y py, .Name z pz] kt pt] (.Tuple [a, b, c] k2 pt2) X.env = pure (some [x, y, z])) :
    PS X (.Assign [.Tuple [.Name x px, .Name y py, .Name z pz] kt pt] (.Tuple [a, b, c] k2 pt2) pos) (tR g W md (evS T (.asg (.tup [.var i, .var j, .var l]) (.tup [A, B, C])))) := by
  refine ⟨fun pins s σ H D I h => (ps_par3 hc hN hi hj hl hij hil hjl hx hy hz ha hw).run pins s σ H D I ?_⟩
  obtain ⟨φ, G, μ, σm, sb, r, st, h⟩ := h
  simp only [evS, evE] at h
  refine ⟨φ, G, μ, σm, sb, r, st, ?_⟩
  cases e0 : evEs T [A, B, C] σm μ with
  | no => rw [e0] at h; exact h
  | exc x' μ1 => rw [e0] at h; exact fun φ1 G1 H1 e1 r1 => h φ1 G1 H1 σ e1.weak r1 (st.ext e1)
  | ok xs μ1 =>
    obtain ⟨u, v, w, rfl⟩ := evEs3 e0
    rw [e0] at h
    have hz : newT [u, v, w] μ1 = .ok (.tup [u, v, w]) μ1 := if_pos (by show 3 ≤ sizeLine; decide)
    simp only [R.bind, hz, R.stm, asgT, asgT.go, List.length_cons, List.length_nil, if_true, R.calm] at h
    intro φ1 G1 H1 e1 r1 ws hws
    obtain ⟨w1, w2, w3, rfl, q1, q2, q3⟩ := hws.three
    exact ⟨w1, w2, w3, rfl, h φ1 G1 H1 _ e1.weak r1 ((((st.ext e1).set q1 h1).set q2 h2).set q3 h3)⟩
/-! ### comprehensions -/
section
variable {elt tg iter tg1 iter1 : PySem.Expr} {ifs ifs1 : List PySem.Expr} {scope : Scope} {own : List (Str × Nat)} {vs1 : List Nat} {TG IT CD TG1 IT1 CD1 : E} {i : Nat} {y : Str} {py spos : Pos}
theorem se_comp (hc : X.calm = true) (hN : X.N.Nodup) (hmd : ∀ j a c d, md ≠ .exc j a c d) (hi : PI X tg iter (tI g T W md IT)) (ok : BlkOk X.N X.env.scope scope own) (hsl : ∀ i ∈ tgSlots TG, i ∈ own.map (·.2))
    (hg : ∀ (s : Shared) (H : Hp) (C : Addr) (cl : List (Str × Addr)) (fp : List Addr), PG (X.blk s H scope (compEnvC scope cl C X.env) fp) tg (gB g md.blk TG)) (ht : ∀ (s : Shared) (H : Hp) (C : Addr) (cl : List (Str × Addr)) (fp : List Addr), PTs (X.blk s H scope (compEnvC scope cl C X.env) fp) ifs (tT g T W0 md.blk CD))
    (he : ∀ (s : Shared) (H : Hp) (C : Addr) (cl : List (Str × Addr)) (fp : List Addr), PE (X.blk s H scope (compEnvC scope cl C X.env) fp) elt (tE g T W0 md.blk A)) (hs : notSet iter = true) :
    PE X (.ListComp elt [⟨tg, iter, ifs, 0⟩] scope pos) (tE g T W md (.comp A TG IT CD (own.map (·.2)))) :=
  ⟨fun pins s σ H Q I h => (pe_lc hc hN hi ok hg ht he (fold_of hs)).run pins s σ H Q I (comp_read hmd hsl h)⟩
theorem sp_setc (hc : X.calm = true) (hN : X.N.Nodup) (hmd : ∀ j a c d, md ≠ .exc j a c d) (hy : X.N[i]? = some y) (hyl : X.env.scope.names.lookup y = some .local) (hyi : md.ex i = false) (hsw : swapsWith (.ListComp elt [⟨tg, iter, ifs, 0⟩] scope pos) (some (.Name y py)) spos.line X.env = pure true)
    (hi : PI X tg iter (tI g T W md IT)) (ok : BlkOk X.N X.env.scope scope own) (hsl : ∀ i ∈ tgSlots TG, i ∈ own.map (·.2))
    (hg : ∀ (s : Shared) (H : Hp) (C : Addr) (cl : List (Str × Addr)) (fp : List Addr), PG (X.blk s H scope (compEnvC scope cl C X.env) fp) tg (gB g md.blk TG)) (ht : ∀ (s : Shared) (H : Hp) (C : Addr) (cl : List (Str × Addr)) (fp : List Addr), PTs (X.blk s H scope (compEnvC scope cl C X.env) fp) ifs (tT g T W0 md.blk CD))
    (he : ∀ (s : Shared) (H : Hp) (C : Addr) (cl : List (Str × Addr)) (fp : List Addr), PE (X.blk s H scope (compEnvC scope cl C X.env) fp) elt (tE g T W0 md.blk A)) (hs : notSet iter = true) :
    PS X (.Assign [.Name y py] (.ListComp elt [⟨tg, iter, ifs, 0⟩] scope pos) spos) (tR g W md (evS T (.asg (.var i) (.comp A TG IT CD (own.map (·.2)))))) := by
  refine ⟨fun pins s σ H D I h => (ps_setLc hc hN hy hyl hsw hi ok hg ht he (fold_of hs)).run pins s σ H D I (comp_read hmd hsl ?_)⟩
  obtain ⟨φ, G, μ, σm, sb, r, st, h⟩ := h
  simp only [evS, asgT] at h
  exact ⟨φ, G, μ, σm, sb, r, st, (h.stm st).imp fun v μ1 φ1 G1 H1 e1 r1 k w hw => k φ1 G1 H1 _ (Ext.refl e1.sub) r1 ((st.ext e1).set hw hyi)⟩
theorem se_comp2 (hc : X.calm = true) (hN : X.N.Nodup) (hmd : ∀ j a c d, md ≠ .exc j a c d) (hi : PI X tg iter (tI g T W md IT)) (ok : BlkOk X.N X.env.scope scope own) (hv : ∀ i ∈ vs1, i ∈ own.map (·.2)) (hsl : ∀ i ∈ tgSlots TG, i ∈ own.map (·.2)) (hsl1 : ∀ i ∈ tgSlots TG1, i ∈ vs1)
    (hg : ∀ (s : Shared) (H : Hp) (C : Addr) (cl : List (Str × Addr)) (fp : List Addr), PG (X.blk s H scope (compEnvC scope cl C X.env) fp) tg (gB g md.blk TG)) (ht : ∀ (s : Shared) (H : Hp) (C : Addr) (cl : List (Str × Addr)) (fp : List Addr), PTs (X.blk s H scope (compEnvC scope cl C X.env) fp) ifs (tT g T W0 md.blk CD))
    (hi1 : ∀ (s : Shared) (H : Hp) (C : Addr) (cl : List (Str × Addr)) (fp : List Addr), PI (X.blk s H scope (compEnvC scope cl C X.env) fp) tg1 iter1 (tI g T W0 md.blk IT1))
    (hg1 : ∀ (s : Shared) (H : Hp) (C : Addr) (cl : List (Str × Addr)) (fp : List Addr), PG (X.blk s H scope (compEnvC scope cl C X.env) fp) tg1 (gB g md.blk TG1)) (ht1 : ∀ (s : Shared) (H : Hp) (C : Addr) (cl : List (Str × Addr)) (fp : List Addr), PTs (X.blk s H scope (compEnvC scope cl C X.env) fp) ifs1 (tT g T W0 md.blk CD1))
    (he : ∀ (s : Shared) (H : Hp) (C : Addr) (cl : List (Str × Addr)) (fp : List Addr), PE (X.blk s H scope (compEnvC scope cl C X.env) fp) elt (tE g T W0 md.blk A)) (hs : notSet iter = true) (hs1 : notSet iter1 = true) :
    PE X (.ListComp elt [⟨tg, iter, ifs, 0⟩, ⟨tg1, iter1, ifs1, 0⟩] scope pos) (tE g T W md (.comp2 A TG IT CD TG1 IT1 CD1 (own.map (·.2)) vs1)) :=
  ⟨fun pins s σ H Q I h => (pe_lc2 hc hN hi ok hv hg ht hi1 hg1 ht1 he (fold_of hs) (fun env x => fold_of hs1 x)).run pins s σ H Q I (comp2_read hmd hsl hsl1 h)⟩
theorem sp_setc2 (hc : X.calm = true) (hN : X.N.Nodup) (hmd : ∀ j a c d, md ≠ .exc j a c d) (hy : X.N[i]? = some y) (hyl : X.env.scope.names.lookup y = some .local) (hyi : md.ex i = false) (hsw : swapsWith (.ListComp elt [⟨tg, iter, ifs, 0⟩, ⟨tg1, iter1, ifs1, 0⟩] scope pos) (some (.Name y py)) spos.line X.env = pure true)
    (hi : PI X tg iter (tI g T W md IT)) (ok : BlkOk X.N X.env.scope scope own) (hv : ∀ i ∈ vs1, i ∈ own.map (·.2)) (hsl : ∀ i ∈ tgSlots TG, i ∈ own.map (·.2)) (hsl1 : ∀ i ∈ tgSlots TG1, i ∈ vs1)
    (hg : ∀ (s : Shared) (H : Hp) (C : Addr) (cl : List (Str × Addr)) (fp : List Addr), PG (X.blk s H scope (compEnvC scope cl C X.env) fp) tg (gB g md.blk TG)) (ht : ∀ (s : Shared) (H : Hp) (C : Addr) (cl : List (Str × Addr)) (fp : List Addr), PTs (X.blk s H scope (compEnvC scope cl C X.env) fp) ifs (tT g T W0 md.blk CD))
    (hi1 : ∀ (s : Shared) (H : Hp) (C : Addr) (cl : List (Str × Addr)) (fp : List Addr), PI (X.blk s H scope (compEnvC scope cl C X.env) fp) tg1 iter1 (tI g T W0 md.blk IT1))
    (hg1 : ∀ (s : Shared) (H : Hp) (C : Addr) (cl : List (Str × Addr)) (fp : List Addr), PG (X.blk s H scope (compEnvC scope cl C X.env) fp) tg1 (gB g md.blk TG1)) (ht1 : ∀ (s : Shared) (H : Hp) (C : Addr) (cl : List (Str × Addr)) (fp : List Addr), PTs (X.blk s H scope (compEnvC scope cl C X.env) fp) ifs1 (tT g T W0 md.blk CD1))
    (he : ∀ (s : Shared) (H : Hp) (C : Addr) (cl : List (Str × Addr)) (fp : List Addr), PE (X.blk s H scope (compEnvC scope cl C X.env) fp) elt (tE g T W0 md.blk A)) (hs : notSet iter = true) (hs1 : notSet iter1 = true) :
    PS X (.Assign [.Name y py] (.ListComp elt [⟨tg, iter, ifs, 0⟩, ⟨tg1, iter1, ifs1, 0⟩] scope pos) spos) (tR g W md (evS T (.asg (.var i) (.comp2 A TG IT CD TG1 IT1 CD1 (own.map (·.2)) vs1)))) := by
  refine ⟨fun pins s σ H D I h => (ps_setLc2 hc hN hy hyl hsw hi ok hv hg ht hi1 hg1 ht1 he (fold_of hs) (fun env x => fold_of hs1 x)).run pins s σ H D I (comp2_read hmd hsl hsl1 ?_)⟩
  obtain ⟨φ, G, μ, σm, sb, r, st, h⟩ := h
  simp only [evS, asgT] at h
  exact ⟨φ, G, μ, σm, sb, r, st, (h.stm st).imp fun v μ1 φ1 G1 H1 e1 r1 k w hw => k φ1 G1 H1 _ (Ext.refl e1.sub) r1 ((st.ext e1).set hw hyi)⟩
end
/-- does the comprehension's store come within its block -/
def swpB (sc scope : Scope) (y : Str) (py pos : Pos) : Bool := sc.names.lookup y == some .local && py.line == pos.line && !(scope.names.any fun (n, k) => n == y && (k == .local || k == .cell))
theorem swpB_ok {elt : PySem.Expr} {gs : List Comprehension} {scope : Scope} {y : Str} {py : Pos} {l : Nat} {env : PySem.Env} (hk : env.blockKind = .function) : swapsWith (.ListComp elt gs scope pos) (some (.Name y py)) l env = pure (swpB env.scope scope y py pos) := by
  unfold swapsWith swpB
  simp only [hk, Expr.pos, Env.kindOf]
  rfl
end
end Mch

/-! ## try: the machine's reading -/
namespace Mch
open PySem PySem.Spec PyProof.Rows L2
section
variable {X : Cx} {g : Glob} {T : Tab} {W : WX} {pos : Pos}
/-- the mode within a suite -/
def sMd (n : Option Nat) (a : Addr) (cls : Value) (d : Option Addr) : Md := match n with
  | none => .no
  | some i => .exc i a cls d
/-- a clause of the machine -/
def mCl (g : Glob) (T : Tab) (C : Addr) (n : Option Nat) (Hb : List S) : Clause := ⟨.ref C, n, fun a cls d => tR g W0 (sMd n a cls d) (evB T Hb)⟩
theorem calm_noX {r : RS} {D : Ends} {φ : List Addr} {G H : Hp} {md : Md} (h : GoodS g W md φ G H D r.calm) : ∀ W', GoodS g W' md φ G H D r := by
  intro W'
  cases r with
  | ok f μ => cases f <;> exact h
  | exc x σ μ => exact h.elim
  | no => exact h.elim
theorem suite_ok {n : Option Nat} {Hb : List S} {x : MX} {σ1 : Env} {σ : L2.St} {μ : Mem} {φ : List Addr} {G H : Hp} {D : Ends} {cls : Value} {d : Option Addr} (sb : Sub G H) (r : Rel g φ G μ) (st : RSt g φ G H .no σ1 σ) (hx : RX g φ G H x cls d)
    (h : GoodS g W .no φ G H D (suite n (evB T Hb) x σ1 μ).calm) (a : Addr) : tR g W0 (sMd n a cls d) (evB T Hb) (outOf n D) (intoS n a σ) H := by
  cases n with
  | none => exact ⟨φ, G, μ, σ1, sb, r, st, calm_noX h W0⟩
  | some i =>
    simp only [suite] at h
    split at h
    · exact h.elim
    · rename_i hi
      have hi' : i < σ1.length := by omega
      have hi2 : i < σ.length := by rw [← st.env.1]; exact hi'
      refine ⟨φ, G, μ, σ1.set i (some (.exn x.c x.vs)), sb, r, ⟨⟨by simp [intoS, st.env.1], fun j v e1 e2 => ?_⟩, x.c, x.vs, ?_, ?_, hx⟩, ?_⟩
      · have ne : j ≠ i := by simpa [sMd, Md.ex] using e2
        rw [List.getElem?_set_ne (Ne.symm ne)] at e1
        show ∃ w, (σ.set i (some (.ref a)))[j]? = _ ∧ _
        rw [List.getElem?_set_ne (Ne.symm ne)]
        exact st.env.2 j v e1 rfl
      · show (σ.set i (some (.ref a)))[i]? = _
        rw [List.getElem?_set_self hi2]
      · rw [List.getElem?_set_self hi']
      · have back : ∀ {φ1 : List Addr} {G1 H1 : Hp} {σ2 : Env} {σ' : L2.St}, RSt g φ1 G1 H1 (sMd (some i) a cls d) σ2 σ' → RSt g φ1 G1 H1 .no (σ2.set i none) (σ'.set i none) := fun {φ1 G1 H1 σ2 σ'} s => by
          refine ⟨⟨by simp [s.env.1], fun j v e1 _ => ?_⟩, trivial⟩
          rw [List.getElem?_set] at e1
          split at e1
          · split at e1 <;> cases e1
          · rename_i ne
            rw [List.getElem?_set_ne ne]
            exact s.env.2 j v e1 (by simp [sMd, Md.ex]; exact fun z => ne z.symm)
        revert h
        cases evB T Hb (σ1.set i (some (.exn x.c x.vs))) μ with
        | no => intro h; exact h.elim
        | exc y σ2 μ2 => intro h; exact h.elim
        | ok f μ2 => cases f with
          | next σ2 => exact fun h φ1 G1 H1 σ' e r s => h φ1 G1 H1 _ e r (back s)
          | brk σ2 => exact fun h φ1 G1 H1 σ' e r s => h φ1 G1 H1 _ e r (back s)
          | cnt σ2 => exact fun h φ1 G1 H1 σ' e r s => h φ1 G1 H1 _ e r (back s)
          | ret v => exact fun h φ1 G1 H1 w e r s => h φ1 G1 H1 w e r s
/-- an exception against a clause -/
theorem isX_ok {x : MX} {c : Nat} {C : Addr} {Cl : ClsM} {b : Bool} {φ : List Addr} {G H : Hp} {cls : Value} {d : Option Addr} (hE : ExcG g) (hK : g.K = X.K) (hT : T.P = g.P) (hc : g.cA c = some C) (hl : g.P.clss[c]? = some Cl) (he : Cl.exc = true) (hx : RX g φ G H x cls d) (hb : isX T.P x c = some b) :
    PySem.W.exmOne X.K cls (.ref C) = some b := by
  obtain ⟨C', Cl', h1, h2, rfl, _⟩ := hx
  unfold isX at hb
  rw [hT, h2] at hb
  simp only at hb
  split at hb
  · rename_i e
    cases hb
    rw [← hK]
    exact hE.exm x.c c C' C Cl' Cl h1 hc h2 hl e he
  · cases hb
structure ClsAt (X : Cx) (g : Glob) (x : Str) (c : Nat) (C : Addr) : Prop where
  names : Names X x (.ref C)
  ca : g.cA c = some C
  cl : ∃ Cl, g.P.clss[c]? = some Cl ∧ Cl.exc = true
theorem sp_try1 {body : List Stmt} {Bb Hb : List S} {x : Str} {n : Option Str} {ni : Option Nat} {c : Nat} {C : Addr} {b₀ : Stmt} {su : List Stmt} {np pos' : Pos} (hst : X.stack = X.env :: X.outer) (hf : X.env.frame = some X.env.locals) (hN : X.N.Nodup) (tk : Takes X W) (hE : ExcG g) (hK : g.K = X.K) (hT : T.P = g.P)
    (hc : ClsAt X g x c C) (hn : NameAt X n ni)
    (hb : ∀ (W : WX) (pn : List (Addr × Obj)) (xe : Value → Shared → Prop), Takes (X.tr pn xe) W → PassesOwn (model X.prog X.w) X.A X.env xe → PSs (X.tr pn xe) body (tR g W .no (evB T Bb)))
    (hsu : ∀ (a : Addr) (oe : Obj) (cls : Value) (d : Option Addr) (pn : List (Addr × Obj)), Zc cls d oe → (∃ vs, oe.data = .fields vs) → PSs (X.suite a ((a, oe) :: pn)) (b₀ :: su) (tR g W0 (sMd ni a cls d) (evB T Hb))) :
    PS X (.Try body [.ExceptHandler (some (.Name x np)) n (b₀ :: su) pos'] [] [] pos) (tR g W .no (evS T (.try1 Bb c ni Hb))) := by
  refine ⟨fun pins s σ H D I h => (ps_clauses (tb := fun W => tR g W .no (evB T Bb)) (ls := [mCl g T C ni Hb]) hst hf hN tk hb (.cons (l := mCl g T C ni Hb) hc.names hn hsu .nil)).run pins s σ H D I ?_⟩
  obtain ⟨φ, G, μ, σm, sb, r, st, h⟩ := h
  refine ⟨φ, G, μ, σm, sb, r, st, ?_⟩
  simp only [evS] at h
  revert h
  cases evB T Bb σm μ with
  | ok f μ1 => intro h; cases f <;> exact h
  | no => intro h; exact h.elim
  | exc y σ1 μ1 =>
    intro h φ1 G1 H1 σ' e1 r1 s1 cls dd hx
    obtain ⟨Cl, hl, he⟩ := hc.cl
    simp only at h
    split at h
    · rename_i hb1
      refine ⟨true, isX_ok hE hK hT hc.ca hl he hx hb1, fun _ a _ => suite_ok e1.sub r1 s1 hx (GoodS.ext h e1) a, fun z => by cases z⟩
    · rename_i hb1
      exact ⟨false, isX_ok hE hK hT hc.ca hl he hx hb1, (fun z => by cases z), fun _ => h φ1 G1 H1 σ' e1 r1 s1 cls dd hx⟩
    · exact h.elim
theorem sp_try2 {body : List Stmt} {Bb Hb Hb2 : List S} {x x2 : Str} {n n2 : Option Str} {ni ni2 : Option Nat} {c c2 : Nat} {C C2 : Addr} {b₀ b₂ : Stmt} {su su2 : List Stmt} {np np2 pos' pos2 : Pos} (hst : X.stack = X.env :: X.outer) (hf : X.env.frame = some X.env.locals) (hN : X.N.Nodup) (tk : Takes X W) (hE : ExcG g) (hK : g.K = X.K) (hT : T.P = g.P)
    (hc : ClsAt X g x c C) (hn : NameAt X n ni) (hc2 : ClsAt X g x2 c2 C2) (hn2 : NameAt X n2 ni2)
    (hb : ∀ (W : WX) (pn : List (Addr × Obj)) (xe : Value → Shared → Prop), Takes (X.tr pn xe) W → PassesOwn (model X.prog X.w) X.A X.env xe → PSs (X.tr pn xe) body (tR g W .no (evB T Bb)))
    (hsu : ∀ (a : Addr) (oe : Obj) (cls : Value) (d : Option Addr) (pn : List (Addr × Obj)), Zc cls d oe → (∃ vs, oe.data = .fields vs) → PSs (X.suite a ((a, oe) :: pn)) (b₀ :: su) (tR g W0 (sMd ni a cls d) (evB T Hb)))
    (hsu2 : ∀ (a : Addr) (oe : Obj) (cls : Value) (d : Option Addr) (pn : List (Addr × Obj)), Zc cls d oe → (∃ vs, oe.data = .fields vs) → PSs (X.suite a ((a, oe) :: pn)) (b₂ :: su2) (tR g W0 (sMd ni2 a cls d) (evB T Hb2))) :
    PS X (.Try body [.ExceptHandler (some (.Name x np)) n (b₀ :: su) pos', .ExceptHandler (some (.Name x2 np2)) n2 (b₂ :: su2) pos2] [] [] pos) (tR g W .no (evS T (.try2 Bb c ni Hb c2 ni2 Hb2))) := by
  refine ⟨fun pins s σ H D I h => (ps_clauses (tb := fun W => tR g W .no (evB T Bb)) (ls := [mCl g T C ni Hb, mCl g T C2 ni2 Hb2]) hst hf hN tk hb (.cons (l := mCl g T C ni Hb) hc.names hn hsu (.cons (l := mCl g T C2 ni2 Hb2) hc2.names hn2 hsu2 .nil))).run pins s σ H D I ?_⟩
  obtain ⟨φ, G, μ, σm, sb, r, st, h⟩ := h
  refine ⟨φ, G, μ, σm, sb, r, st, ?_⟩
  simp only [evS] at h
  revert h
  cases evB T Bb σm μ with
  | ok f μ1 => intro h; cases f <;> exact h
  | no => intro h; exact h.elim
  | exc y σ1 μ1 =>
    intro h φ1 G1 H1 σ' e1 r1 s1 cls dd hx
    obtain ⟨Cl, hl, he⟩ := hc.cl
    obtain ⟨Cl2, hl2, he2⟩ := hc2.cl
    simp only at h
    split at h
    · rename_i hb1
      refine ⟨true, isX_ok hE hK hT hc.ca hl he hx hb1, fun _ a _ => suite_ok e1.sub r1 s1 hx (GoodS.ext h e1) a, fun z => by cases z⟩
    · rename_i hb1
      refine ⟨false, isX_ok hE hK hT hc.ca hl he hx hb1, (fun z => by cases z), fun _ => ?_⟩
      split at h
      · rename_i hb2
        refine ⟨true, isX_ok hE hK hT hc2.ca hl2 he2 hx hb2, fun _ a _ => suite_ok e1.sub r1 s1 hx (GoodS.ext h e1) a, fun z => by cases z⟩
      · rename_i hb2
        exact ⟨false, isX_ok hE hK hT hc2.ca hl2 he2 hx hb2, (fun z => by cases z), fun _ => h φ1 G1 H1 σ' e1 r1 s1 cls dd hx⟩
      · exact h.elim
    · exact h.elim
end
end Mch

/-! ## Objects made; the fields filled in __init__ -/
namespace Mch
open PySem PySem.Spec PyProof.Rows L2
/-- what the machine's making gives to an __init__ -/
def GoodI (g : Glob) (x C : Addr) (c : Nat) (fl : List Str) (φ : List Addr) (G H : Hp) (Q : VK) (Ex : XK) : R MV → Prop
  | .ok v μ => ∀ φ1 G1 H1 ws dx fs, Ext (some x) φ G H φ1 G1 H1 → Rel g φ1 G1 μ → v = .obj c ws → H1 x = some (.ins C dx fs) → G1 x = none → fs.map (·.1) = fl → RVs g φ1 G1 ws (fs.map (·.2)) → Q .non H1
  | .exc x' μ => ∀ φ1 G1 H1, Ext (some x) φ G H φ1 G1 H1 → Rel g φ1 G1 μ → ∀ cls dd, RX g φ1 G1 H1 x' cls dd → Ex cls dd H1
  | .no => False
/-- what an __init__ promises -/
def spI (g : Glob) (T : Tab) (c : Nat) : Sp := fun vs H Q Ex => ∃ x rest C dx φ G μ xs Cl i D, vs = V.ref x :: rest ∧ H x = some (.ins C dx []) ∧ G x = none ∧ Sub G H ∧ Rel g φ G μ ∧ RVs g φ G xs rest ∧ g.cA c = some C ∧
  T.P.clss[c]? = some Cl ∧ Cl.init = some i ∧ T.P.defs[i]? = some D ∧ xs.length + 1 = D.np ∧ GoodI g x C c Cl.fields φ G H Q Ex (T.make c xs μ)
/-- a class that is made -/
structure IniOk (g : Glob) (T : Tab) (P : Program) (w : World) (K : PySem.W.Frag) (mg : Str → Option Value) (base : Heap) (k : Nat) (c : Nat) : Prop where
  ex : ∃ (C a : Addr) (fd : FuncData) (ps : List Str) (dvs : List V) (Cl : ClsM) (i : Nat) (D : Def), g.cA c = some C ∧ T.P.clss[c]? = some Cl ∧ Cl.init = some i ∧ T.P.defs[i]? = some D ∧ Mk K C a ∧ (∀ φ G, RVs g φ G D.dfl dvs) ∧
    (∀ m, m ≤ dvs.length → ∃ ds, Vals (dvs.drop m) ds ∧ Binds K fd ps ds) ∧ FnOk P w K mg base (L2.CX P w) k a fd ps (spI g T c) ∧
    (∀ xs μ, T.make c xs μ ≠ .no → (xs ++ D.dfl.drop (D.dfl.length - (D.np - (xs.length + 1)))).length + 1 = D.np ∧ T.make c xs μ = T.make c (xs ++ D.dfl.drop (D.dfl.length - (D.np - (xs.length + 1)))) μ) ∧
    (∀ xs μ v μ1, T.make c xs μ = .ok v μ1 → ∃ ws, v = .obj c ws ∧ ws.length = Cl.fields.length)
section
variable {X : Cx} {pins : List (Addr × Obj)} {s : Shared} {σ : L2.St} {g : Glob} {T : Tab} {φ φ1 : List Addr} {G G1 H H1 : Hp} {μ : Mem} {W : WX} {Q : VK} {k : Nat}
/-- the making, as its caller sees it -/
theorem Ext.made {x dx C : Addr} (h : Ext (some x) φ G (L2.upd (L2.upd H dx (.own x)) x (.ins C dx [])) φ1 G1 H1) (nx : H x = none) (nd : H dx = none) (hn : G1 x = none) (o : HO) (ho : H1 x = some o) : Ext none φ G H φ1 (L2.upd G1 x o) H1 where
  pre := h.pre
  keep := fun a u e f => by
    have q := h.keep a u e f
    rw [upd_ne (fun z => by rw [z, hn] at q; cases q)]
    exact q
  sub := fun a u e => by
    by_cases z : a = x
    · subst z
      rw [upd_same] at e
      cases e
      exact ho
    · rw [upd_ne z] at e
      exact h.sub a u e
  frame := fun a u e n => by
    have z : a ≠ x := ne_of_none e nx
    have z2 : a ≠ dx := ne_of_none e nd
    obtain ⟨q1, o', q2, q3⟩ := h.frame a u (by rw [upd_ne z, upd_ne z2]; exact e) n
    rw [upd_ne z]
    exact ⟨q1, o', q2, fun _ => q3 (fun y => z (Option.some.inj y))⟩
theorem Ext.unmade {x dx C : Addr} (h : Ext (some x) φ G (L2.upd (L2.upd H dx (.own x)) x (.ins C dx [])) φ1 G1 H1) (nx : H x = none) (nd : H dx = none) : Ext none φ G H φ1 G1 H1 where
  pre := h.pre
  keep := h.keep
  sub := h.sub
  frame := fun a u e n => by
    have z : a ≠ x := ne_of_none e nx
    have z2 : a ≠ dx := ne_of_none e nd
    obtain ⟨q1, o', q2, q3⟩ := h.frame a u (by rw [upd_ne z, upd_ne z2]; exact e) n
    exact ⟨q1, o', q2, fun _ => q3 (fun y => z (Option.some.inj y))⟩
theorem mk_call {c : Nat} {xs : List MV} {vs : List V} {us : List Value} {C : Addr} (M : IniOk g T X.prog X.w X.K X.mg X.base k c) (hT : T.P = g.P) (hC : g.cA c = some C) (hr : Room (k + 1) X.A) (tk : Takes X W) (I : Inv X pins σ H s) (r : Rel g φ G μ) (sb : Sub G H) (rx : RVs g φ G xs vs) (ra : Vals vs us)
    (h : Good g W σ φ G H (T.make c xs μ) (kE g Q)) : wpAny (model X.prog X.w) X.A (call (.ref C) us) (EP X pins σ Q) X.xe s := by
  obtain ⟨C', a, fd, ps, dvs, Cl, i, D, h1, h2, h3, h4, h5, h6, h7, h8, h9, h10⟩ := M.ex
  rw [hC] at h1
  cases h1
  have h6l : D.dfl.length = dvs.length := (h6 [] fun _ => none).len
  obtain ⟨hnp, hfull⟩ := h9 _ _ (good_no h)
  obtain ⟨ds, hd, hb⟩ := h7 (min (D.dfl.length - (D.np - (xs.length + 1))) dvs.length) (Nat.min_le_right _ _)
  have em : dvs.drop (min (D.dfl.length - (D.np - (xs.length + 1))) dvs.length) = dvs.drop (D.dfl.length - (D.np - (xs.length + 1))) := by
    rw [Nat.min_eq_left]
    omega
  rw [em] at hd
  have nx : H (s.heap.objs.size + 1) = none := I.hok.fresh (Nat.le_succ _)
  have nd : H s.heap.objs.size = none := I.hok.fresh (Nat.le_refl _)
  have ne : s.heap.objs.size ≠ s.heap.objs.size + 1 := Nat.ne_of_lt (Nat.lt_succ_self _)
  have sb2 : Sub G (L2.upd (L2.upd H s.heap.objs.size (.own (s.heap.objs.size + 1))) (s.heap.objs.size + 1) (.ins C s.heap.objs.size [])) := fun b u e => by
    have := sb b u e
    rw [upd_ne (ne_of_none this nx), upd_ne (ne_of_none this nd)]
    exact this
  have hsp : spI g T c (.ref (s.heap.objs.size + 1) :: (vs ++ dvs.drop (D.dfl.length - (D.np - (xs.length + 1))))) (L2.upd (L2.upd H s.heap.objs.size (.own (s.heap.objs.size + 1))) (s.heap.objs.size + 1) (.ins C s.heap.objs.size []))
      (fun v H2 => v = .non ∧ Q (.ref (s.heap.objs.size + 1)) H2) (WE W σ) := by
    refine ⟨_, _, C, _, φ, G, μ, _, Cl, i, D, rfl, upd_same, sb.none nx, sb2, r, rx.append ((h6 φ G).drop _), hC, h2, h3, h4, hnp, ?_⟩
    rw [← hfull]
    revert h
    have h10 := h10 xs μ
    cases T.make c xs μ with
    | no => exact fun h => h
    | exc x' μ1 => exact fun h φ1 G1 H1 e1 r1 => h φ1 G1 H1 (e1.unmade nx nd) r1
    | ok v μ1 =>
      intro h φ1 G1 H1 ws dx fs e1 r1 hv hx hg hf hw
      subst hv
      refine ⟨rfl, h φ1 _ H1 (e1.made nx nd hg _ hx) (r1.grow (sub_new hg)) _ ?_⟩
      simp only [RV]
      exact ⟨_, C, dx, fs, Cl, rfl, hC, upd_same, by rw [← hT]; exact h2, hf, RVs.mono (List.prefix_refl _) (fun b o e _ => sub_new hg b o e) _ _ hw⟩
  have I2 := Inv.made (C := C) I
  have r2 : Vals (V.ref (s.heap.objs.size + 1) :: (vs ++ dvs.drop (D.dfl.length - (D.np - (xs.length + 1))))) (Value.ref (s.heap.objs.size + 1) :: (us ++ ds)) := .cons rfl (ra.append hd)
  have hl : (Value.ref (s.heap.objs.size + 1) :: us ++ ds).length = ps.length := by
    have e := r2.length
    rw [h8.len _ _ _ _ hsp] at e
    exact e.symm
  have run := h8.run _ X.stack _ _ ⟨Value.ref (s.heap.objs.size + 1) :: us, []⟩ (Value.ref (s.heap.objs.size + 1) :: (us ++ ds)) _ _ (WE W σ) (hr.make C us []) (I2.env0.make C us []) (hb _ (Value.ref (s.heap.objs.size + 1) :: us) I2.kIn hl) r2 hsp
  refine wpAny_call (make_map (f := a) I.kIn h5.makes h5.init (beq_iff_eq.mp h5.fn) (codeAny_mono run fun r s' hq' => ?_))
  match r, hq' with
  | .error e, hq' => exact passAt tk σ pins _ _ e s' I2 hq'
  | .ok (.ret u), hq' =>
    obtain ⟨v, H', I3, rv, ev, q3⟩ := I2.after hq'
    subst ev
    exact ⟨rv, ⟨V.ref (s.heap.objs.size + 1), H', I3, rfl, q3⟩⟩
  | .ok .next, hq' => exact False.elim hq'
  | .ok .brk, hq' => exact False.elim hq'
  | .ok .cont, hq' => exact False.elim hq'
end
section
variable {X : Cx} {g : Glob} {T : Tab} {W : WX} {md : Md} {a b c : PySem.Expr} {A B : E} {pos : Pos} {k : Nat}
/-- C(..) -/
theorem se_mk {x : Str} {p : Pos} {c : Nat} {C : Addr} {es : List PySem.Expr} {As : List E} (M : IniOk g T X.prog X.w X.K X.mg X.base k c) (hT : T.P = g.P) (hC : g.cA c = some C) (hr : Room (k + 1) X.A) (tk : Takes X W) (hg : Gl X x) (hm : X.mg x = some (.ref C)) (hdb : (x == ("__debug__" : Str)) = false)
    (hp : es.all plain = true) (hl : es.length = As.length) (ha : PA X es (tEs g T W md As)) : PE X (.Call (.Name x p) es [] pos) (tE g T W md (.mk c As)) := by
  have kp : PySem.W.keepIn X.K (.ref C) = true := by
    obtain ⟨C', a, fd, ps, dvs, Cl, i, D, h1, h2, h3, h4, h5, _⟩ := M.ex
    rw [hC] at h1
    cases h1
    exact h5.kp
  refine ⟨fun pins s σ H Q I h => ?_⟩
  obtain ⟨φ, G, μ, σm, sb, r, e, h⟩ := h
  simp only [evE] at h
  cases es with
  | nil =>
    have e0 : As = [] := List.length_eq_zero_iff.mp hl.symm
    subst e0
    simp only [evEs, R.bind] at h
    refine wpAny_Call_Name_kw (ld_glob I hg hm ?_ hdb)
    exact PySem.W.callWith_K0 I.kIn kp (mk_call (us := []) M hT hC hr tk I r sb rvs_nil .nil h)
  | cons e0 es =>
    rw [List.all_cons, Bool.and_eq_true] at hp
    refine wpAny_Call_Name_kw (ld_glob I hg hm ?_ hdb)
    refine PySem.W.callWith_K (h₀ := X.base) I.ok.mod.kin kp (thn (ha.run pos pins s σ H (fun ws H2 => ∃ φ G μ xs, Sub G H2 ∧ Rel g φ G μ ∧ RVs g φ G xs ws ∧ Good g W σ φ G H2 (T.make c xs μ) (kE g Q)) I ⟨φ, G, μ, σm, sb, r, e, h.bind.imp fun xs μ2 φ2 G2 H2 e2 r2 k ws hws => ⟨φ2, G2, μ2, xs, e2.sub, r2, hws, k⟩⟩) fun us s2 ⟨ws, H2, I2, rr, q2⟩ => ⟨I2.kIn, ?_⟩) (star_cons hp.1) (star_any hp.2)
    obtain ⟨φ2, G2, μ2, xs, sb2, r2, rxs, q2⟩ := q2
    exact mk_call M hT hC hr tk I2 r2 sb2 rxs rr q2
end
/-! ### self.f = e -/
theorem putF_new {f : Str} {v : V} : ∀ {fs : List (Str × V)}, f ∉ fs.map (·.1) → putF f v fs = fs ++ [(f, v)]
  | [], _ => rfl
  | (h, x) :: r, hn => by
    simp only [List.map_cons, List.mem_cons, not_or] at hn
    unfold putF
    rw [if_neg (fun z => hn.1 z.symm), putF_new hn.2]
    rfl
theorem ext_ini {x C dx : Addr} {fs fs' : List (Str × V)} {φ : List Addr} {G H : Hp} (sb : Sub G H) (hx : H x = some (.ins C dx fs)) (hn : G x = none) : Ext (some x) φ G H φ G (L2.upd H x (.ins C dx fs')) where
  pre := List.prefix_refl _
  keep := fun a o e _ => e
  sub := fun a o e => by
    rw [upd_ne (ne_of_none e hn)]
    exact sb a o e
  frame := fun a o e n => by
    by_cases z : a = x
    · subst z
      exact ⟨n, _, upd_same, fun y => absurd rfl y⟩
    · rw [upd_ne z]
      exact ⟨n, o, e, fun _ => rfl⟩
section
variable {X : Cx} {g : Glob} {T : Tab} {W : WX} {e : PySem.Expr} {A : E} {pos pos' : Pos}
theorem sp_setf {x : Addr} {n f : Str} {p : Pos} (hT : T.P = g.P) (hK : g.K = X.K) (hfld : ∀ d C Cl, g.cA d = some C → g.P.clss[d]? = some Cl → Cl.init.isSome = true → L2.Cls g.K C ∧ ∀ f ∈ Cl.fields, NoAttr g.K C f)
    (hfl : ∀ (c : Nat) (Cl : ClsM), g.P.clss[c]? = some Cl → Cl.init.isSome = true → Cl.fields.Nodup ∧ Cl.fields.length < 1000) (hini : ∀ (c : Nat) (Cl : ClsM), g.P.clss[c]? = some Cl → f ∈ Cl.fields → Cl.init.isSome = true)
    (hN : X.N[0]? = some n) (hv : Vis X.env.scope n) (hdb : (n == ("__debug__" : Str)) = false) (hcd : (n == ("__classdict__" : Str)) = false) (hnc : notComp e = true) (he : PE X e (tE g T W (.ini x) A)) :
    PS X (.Assign [.Attribute (.Name n p) f pos'] e pos) (tR g W (.ini x) (evS T (.setf f A))) := by
  refine ⟨fun pins s σ H D I h => (ps_fld (pe_var hN hv hdb hcd) he (swaps_no hnc)).run pins s σ H D I ?_⟩
  obtain ⟨φ, G, μ, σm, sb, r, st, h⟩ := h
  simp only [evS] at h
  refine ⟨φ, G, μ, σm, sb, r, st, (h.stm st).imp fun v μ1 φ1 G1 H1 e1 r1 k w hw => ?_⟩
  have st1 := st.ext e1
  obtain ⟨C, dx, fs, c, vs, Cl, s1, s2, s3, s4, s5, s6, s7, s8⟩ := st1.self
  refine ⟨.ref x, s1, x, C, dx, fs, rfl, s2, ?_⟩
  rw [s4] at k
  simp only at k
  rw [hT, s6] at k
  simp only at k
  split at k
  · rename_i hf
    have hmem : f ∈ Cl.fields := List.mem_of_getElem? hf
    have hi := hini c Cl s6 hmem
    obtain ⟨q1, q2⟩ := hfld c C Cl s5 s6 hi
    obtain ⟨q3, q4⟩ := hfl c Cl s6 hi
    rw [hK] at q1 q2
    have hlt := (List.getElem?_eq_some_iff.mp hf).1
    have hlen : fs.length = vs.length := by
      have := congrArg List.length s7
      rw [List.length_map, List.length_take] at this
      omega
    have hnew : f ∉ fs.map (·.1) := by
      rw [s7]
      intro hm
      obtain ⟨j, hj⟩ := List.mem_iff_getElem?.mp hm
      rw [List.getElem?_take] at hj
      split at hj
      · rename_i hjl
        have hj2 := (List.getElem?_eq_some_iff.mp hj).1
        have e3 := (List.getElem?_inj hj2 q3 (j := vs.length)).mp (by rw [hj, hf])
        omega
      · cases hj
    refine ⟨q1, q2 f hmem, by omega, ?_⟩
    rw [putF_new hnew]
    refine k φ1 G1 _ σ (ext_ini e1.sub s2 s3) r1 ⟨⟨by simp [st1.env.1], fun i u e2 e3 => ?_⟩, ?_⟩
    · have ne : (0 : Nat) ≠ i := by
        rintro rfl
        simp [Md.ex] at e3
      rw [List.getElem?_set_ne ne] at e2
      exact st1.env.2 i u e2 e3
    · refine ⟨C, dx, fs ++ [(f, w)], c, vs ++ [v], Cl, s1, upd_same, s3, ?_, s5, s6, ?_, ?_⟩
      · rw [List.getElem?_set_self (List.getElem?_eq_some_iff.mp s4).1]
      · rw [List.map_append, s7, List.length_append, List.map_cons, List.map_nil, List.length_cons, List.length_nil, List.take_add_one, hf]
        rfl
      · rw [List.map_append]
        exact s8.append (rvs_cons hw rvs_nil)
  · exact k.elim
end
end Mch

/-! ## Own exceptions with a field -/
namespace Mch
open PySem PySem.Spec PyProof.Rows L2
/-- the class of an exception that stores a field -/
def oexB (K : PySem.W.Frag) (C : Addr) : Bool := (match K.lookup C with
  | some ⟨.type t, _, .cls cd, sl⟩ => decide (t = "type") && (match cd.mro, sl.toList with
    | .ref C' :: bm, [_, _, _, _, some (.builtin n), _] => decide (C' = C) && (decide (n = "ValueError.__new__") && ((!cd.hasDel && cd.hasDict) && PySem.HandSPX.refsVE bm))
    | _, _ => false)
  | _ => false) && (decide (PySem.W.findIn K (.ref C) "__setattr__" = some (some (.builtin "object.__setattr__"))) && (decide (PySem.W.subIn K (.ref C) (.type "BaseException") = some true) && (decide (PySem.W.typeIn K (.ref C) = some (.type "type")) && PySem.W.keepIn K (.ref C))))
theorem oexB_ok {K : PySem.W.Frag} {C : Addr} (h : oexB K C = true) : OexC K C := by
  unfold oexB at h
  simp only [Bool.and_eq_true, decide_eq_true_eq] at h
  obtain ⟨h0, h1, h2, h3, h4⟩ := h
  refine ⟨?_, h1, h2, h3, h4⟩
  split at h0
  · rename_i t dd cd sl hl
    simp only [Bool.and_eq_true, decide_eq_true_eq] at h0
    obtain ⟨rfl, h0⟩ := h0
    split at h0
    · rename_i C' bm k0 k1 k2 k3 n k5 hm hs
      simp only [Bool.and_eq_true, decide_eq_true_eq, Bool.not_eq_true'] at h0
      obtain ⟨rfl, rfl, ⟨hd, hdc⟩, hr⟩ := h0
      obtain ⟨nm, bs, mro, ns, qn, hdict, sn, sub, ab, col, del⟩ := cd
      simp only at hm hd hdc
      subst hm hd hdc
      refine ⟨nm, qn, ns, bs, bm, sn, sub, ab, col, dd, k0, k1, k2, k3, k5, ?_, hr⟩
      rw [hl]
      congr
      exact Array.toList_inj.mp hs
    · cases h0
  · cases h0
/-- what such an __init__ promises -/
def spX (K : PySem.W.Frag) (C : Addr) (f : Str) : Sp := fun vs H Q _ => ∃ a y, vs = [V.ref a, y] ∧ H a = some (exo a C none) ∧ OexC K C ∧ PySem.W.findIn K (.ref C) f = some none ∧ ∀ dx, H dx = none → dx ≠ a → Q .non (L2.upd (L2.upd H dx (exd dx [(f, y)])) a (exo a C (some dx)))
section
variable {X : Cx} {te : TE} {ta : TA} {e e0 : PySem.Expr} {es : List PySem.Expr} {p1 p2 pos : Pos} {B f sf r : Str} {Bc : Addr} {mc : Value}
/-- B.__init__(self, ..), B an own class over ValueError that has no __init__ -/
theorem pe_xinit (hg : Gl X B) (hm : X.mg B = some (.ref Bc)) (hdb : (B == ("__debug__" : Str)) = false) (cr : ClX.CRead X.K Bc mc) (hf : PySem.W.findCls X.K (.ref Bc) mc "__init__" = some (.val (.builtin "ValueError.__init__"))) (hline : (p2.endLine == pos.line) = true)
    (hp : plain e = true) (hps : es.all plain = true) (hl : (e :: es).length < 30) (ha : PA X (e :: es) ta) : PE X (.Call (.Attribute (.Name B p1) "__init__" p2) (e :: es) [] pos) (tVeI X.K ta) := by
  refine ⟨fun pins s σ H Q I h => ?_⟩
  refine PySem.W.methodCall_KW (ld_glob I hg hm ?_ hdb) (meth_form (o := .Name B p1) rfl hline (by rw [List.all_cons, hp, hps]; rfl) hl)
  refine PySem.W.method_cls I.kIn cr.ga (PySem.W.cls_value I.kIn cr.rd hf (by rfl) ?_)
  show wpAny _ _ (callWith pos (Value.builtin "ValueError.__init__") [] (backTo pos (starEach (e :: es) X.env)) []) _ _ _
  refine PyProof.Rows.callWith_method1 (thn (ha.run pos pins _ σ H _ (I.tok _) h) fun us s1 ⟨vs, H1, I1, r1, a, C, ws, ev, hl, T, ea, q⟩ => ?_) (star_cons hp) (star_any hps)
  subst ev
  match us, r1 with
  | u0 :: ur, .cons ra rw' =>
    obtain rfl : u0 = Value.ref a := ra
    have hlen : ur.length ≤ sizeLine := by
      have := Paired.length rw'
      rw [sizeLine_eq]
      omega
    exact oinit_ok T I1 ea hlen fun s' J => ⟨.non, H1, J, rfl, q⟩
end
def isVisB (sc : Scope) (N : List Str) : Bool := N.all fun x => decide (sc.names.lookup x = some .local) && (!(x == "__debug__") && !(x == "__classdict__"))
theorem isVisB_ok {sc : Scope} {x y : Str} (h : isVisB sc [x, y] = true) : (Vis sc x ∧ (x == ("__debug__" : Str)) = false ∧ (x == ("__classdict__" : Str)) = false) ∧ (Vis sc y ∧ (y == ("__debug__" : Str)) = false ∧ (y == ("__classdict__" : Str)) = false) := by
  unfold isVisB at h
  simp only [List.all_cons, List.all_nil, Bool.and_true, Bool.and_eq_true, decide_eq_true_eq, Bool.not_eq_true'] at h
  obtain ⟨⟨h1, h2, h3⟩, h4, h5, h6⟩ := h
  exact ⟨⟨.inl h1, h2, h3⟩, .inl h4, h5, h6⟩
/-- the second argument of B.__init__ -/
def argB (r : Str) : PySem.Expr → Bool
  | .Name x _ => decide (x = r)
  | .Constant (.str _) _ _ => true
  | _ => false
/-- the form of such an __init__: B.__init__(s, ..); s.f = r -/
def xinB (N : List Str) (f B : Str) : List Stmt → Bool
  | [.Expr (.Call (.Attribute (.Name b _) i p2) [.Name s1 _, e0] kw pos) _, .Assign [.Attribute (.Name s2 _) g _] (.Name r _) _] => (match N with
    | [s, q] => decide (b = B) && (decide (i = "__init__") && (kw.isEmpty && (decide (s1 = s) && (decide (s2 = s) && (decide (r = q) && (decide (g = f) && (argB q e0 && (p2.endLine == pos.line))))))))
    | _ => false)
  | _ => false
section
variable {P : Program} {w : World} {K : PySem.W.Frag} {mg : Str → Option Value} {base : Heap} {qual : Str} {sc : Scope} {fa : Addr} {cdv : Value} {A : Around} {outer : List PySem.Env} {s : Shared} {H : Hp} {E : XK} {N : List Str} {f B : Str} {Bc : Addr} {mc : Value}
/-- a def of this form keeps its promise -/
theorem xin_body {C a : Addr} {y : V} {Q : VK} {body : List Stmt} (hx : xinB N f B body = true) (hn : isVisB sc N = true) (hgl : sc.names.lookup B = some .globalImplicit) (hdb : (B == ("__debug__" : Str)) = false) (hm : mg B = some (.ref Bc)) (cr : ClX.CRead K Bc mc)
    (hf : PySem.W.findCls K (.ref Bc) mc "__init__" = some (.val (.builtin "ValueError.__init__"))) (hl : N.length = 2) (hT : OexC K C) (hno : PySem.W.findIn K (.ref C) f = some none)
    (ea : H a = some (exo a C none)) (q : ∀ dx, H dx = none → dx ≠ a → Q .non (L2.upd (L2.upd H dx (exd dx [(f, y)])) a (exo a C (some dx)))) :
    ∃ t, PSs (cxOf (L2.CX P w) P w K mg base N qual sc fa cdv A outer s H E) body t ∧ t { nx := fun _ H' => Q .non H', rt := Q } (L2.start N [.ref a, y]) H := by
  unfold xinB at hx
  split at hx
  · rename_i b pb i p2 s1 ps1 e0 kw pos pe s2 ps2 g pg r pr pa
    split at hx
    · rename_i s' q'
      simp only [Bool.and_eq_true, decide_eq_true_eq] at hx
      obtain ⟨rfl, rfl, hk, rfl, rfl, rfl, rfl, harg, hline⟩ := hx
      have e1 := List.isEmpty_iff.mp hk
      subst e1
      obtain ⟨v0, v1⟩ := isVisB_ok hn
      have hself : ∀ p, PE (cxOf (L2.CX P w) P w K mg base [s2, r] qual sc fa cdv A outer s H E) (.Name s2 p) (tVar 0) := fun p => pe_var rfl v0.1 v0.2.1 v0.2.2
      have hval : ∀ p, PE (cxOf (L2.CX P w) P w K mg base [s2, r] qual sc fa cdv A outer s H E) (.Name r p) (tVar 1) := fun p => pe_var rfl v1.1 v1.2.1 v1.2.2
      have ks : ∀ (te : TE) (z : V), PE (cxOf (L2.CX P w) P w K mg base [s2, r] qual sc fa cdv A outer s H E) e0 te → plain e0 = true → (∀ Q : VK, Q z H → te (L2.start [s2, r] [.ref a, y]) H Q) → ∃ t, PSs (cxOf (L2.CX P w) P w K mg base [s2, r] qual sc fa cdv A outer s H E) [.Expr (.Call (.Attribute (.Name b pb) "__init__" p2) [.Name s2 ps1, e0] [] pos) pe, .Assign [.Attribute (.Name s2 ps2) g pg] (.Name r pr) pa] t ∧ t { nx := fun _ H' => Q .non H', rt := Q } (L2.start [s2, r] [.ref a, y]) H := fun te z h0 hp0 hz => by
        refine ⟨_, pss_cons (ps_expr (pe_xinit (mc := mc) hgl hm hdb cr hf hline rfl (by rw [List.all_cons, hp0]; rfl) (by simp) (pa_cons (hself _) (pa_cons h0 pa_nil (star_cons hp0)) rfl)) rfl) (pss_cons (ps_ost (hself _) (hval _) rfl) pss_nil), ?_⟩
        refine ⟨.ref a, rfl, hz _ ⟨a, C, [z], rfl, by simp, hT, ea, ?_⟩⟩
        exact ⟨y, rfl, .ref a, rfl, a, C, rfl, hT, hno, .inl ⟨ea, q⟩⟩
      unfold argB at harg
      split at harg
      · rename_i x px
        have ex : x = r := by simpa using harg
        subst ex
        exact ks (tVar 1) y (hval _) rfl fun Q h => ⟨y, rfl, h⟩
      · rename_i z j px
        exact ks (tC (.str z)) (.str z) pe_str rfl fun Q h => h
      · cases harg
    · cases hx
  · cases hx
end
/-- raise C(e), C an own exception with a field -/
structure ExF (g : Glob) (P : Program) (w : World) (K : PySem.W.Frag) (mg : Str → Option Value) (base : Heap) (k : Nat) (ci : Nat) : Prop where
  ex : ∃ (C fI : Addr) (fd : FuncData) (ps : List Str) (f : Str) (Cl : ClsM), g.cA ci = some C ∧ g.P.clss[ci]? = some Cl ∧ Cl.exc = true ∧ Cl.fields = [f] ∧ OexC K C ∧ PySem.W.findIn K (.ref C) "__init__" = some (some (.ref fI)) ∧
    PySem.W.typeIn K (.ref fI) = some (.type "function") ∧ PySem.W.findIn K (.ref C) f = some none ∧ Binds K fd ps [] ∧ FnOk P w K mg base (L2.CX P w) (k + 1) fI fd ps (spX K C f)
theorem ext_fresh {ex : Option Addr} {φ : List Addr} {G H : Hp} {d : Addr} {o : HO} (sb : Sub G H) (hd : H d = none) : Ext ex φ G H φ G (L2.upd H d o) where
  pre := List.prefix_refl _
  keep := fun a o e _ => e
  sub := fun a o e => by
    rw [upd_ne (ne_of_none (sb a o e) hd)]
    exact sb a o e
  frame := fun a u e n => by
    rw [upd_ne (ne_of_none e hd)]
    exact ⟨n, u, e, fun _ => rfl⟩
theorem del_heap {H : Hp} {a d C : Addr} {f : Str} {y : V} (ha : H a = none) (hne : d ≠ a) : L2.upd (del (L2.upd (L2.upd (L2.upd H a (exo a C none)) d (exd d [(f, y)])) a (exo a C (some d))) a) d (.xd [(f, y)]) = L2.upd H d (.xd [(f, y)]) := by
  funext b
  by_cases h1 : b = d
  · subst h1
    rw [upd_same, upd_same]
  · rw [upd_ne h1, upd_ne h1]
    by_cases h2 : b = a
    · subst h2
      rw [del_same, ha]
    · rw [del_ne h2, upd_ne h2, upd_ne h1, upd_ne h2]
section
variable {X : Cx} {g : Glob} {T : Tab} {W : WX} {md : Md} {e : PySem.Expr} {A : E} {pos p pos' : Pos} {k : Nat}
theorem sp_raise1 {x : Str} {ci : Nat} {Ca : Addr} (hc : X.calm = true) (tk : Takes X W) (hE : ExF g X.prog X.w X.K X.mg X.base k ci) (hT : T.P = g.P) (hr : Room (k + 2) X.A) (hA : g.cA ci = some Ca) (hg : Gl X x) (hm : X.mg x = some (.ref Ca)) (hdb : (x == ("__debug__" : Str)) = false)
    (hp : plain e = true) (he : PE X e (tE g T W md A)) : PS X (.Raise (some (.Call (.Name x p) [e] [] pos')) none pos) (tR g W md (evS T (.raise ci [A]))) := by
  obtain ⟨C, fI, fd, ps, f, Cl, h1, h2, h3, h4, h5, h6, h7, h8, h9, h10⟩ := hE.ex
  rw [hA] at h1
  cases h1
  have hx : Passes (L2.CX X.prog X.w) X (fun _ _ _ => False) := fun pins σ H s u s' I c => by
    obtain ⟨_, _, _, _, _, _, _, _, _, _, _, _, z⟩ := c
    exact z.elim
  refine ⟨fun pins s σ H D I h => (ps_raise hc tk (pmk_oex h5 h6 h7 h10 hr h9 .nil hx hg hm (sa_cons hp he sa_nil) hdb (star_cons hp) (star_any rfl))).run pins s σ H D I ?_⟩
  obtain ⟨φ, G, μ, σm, sb, r, st, h⟩ := h
  simp only [evS] at h
  refine ⟨φ, G, μ, σm, sb, r, st, (h.stm st).imp2 fun xs μ1 φ1 G1 H1 e0 e1 r1 kk vs hvs => ?_⟩
  have hl1 : xs.length = 1 := evEs_len e0
  match xs, hl1, hvs, kk with
  | [v], _, hvs, kk =>
    obtain ⟨y, rfl, hv⟩ := hvs.one
    refine ⟨by simp, fun a ha => ?_⟩
    have hmk : mkX T.P ci [v] = some ⟨ci, [v]⟩ := by
      unfold mkX
      rw [hT, h2]
      simp only [h4]
    rw [hmk] at kk
    refine ⟨a, y, rfl, upd_same, h5, h8, fun dx hdx hne => ⟨rfl, dx, [(f, y)], upd_same, ?_, ?_, ?_⟩⟩
    · rw [upd_ne hne, upd_same]
    · rw [upd_ne hne] at hdx
      exact hdx
    · have hd1 : H1 dx = none := by
        rw [upd_ne hne] at hdx
        exact hdx
      rw [del_heap ha hne]
      have e2 : Ext none φ1 G1 H1 φ1 G1 (L2.upd H1 dx (.xd [(f, y)])) := ext_fresh e1.sub hd1
      exact kk φ1 G1 _ σ e2.weak r1 ((st.ext e1).ext e2) _ _ ⟨Ca, Cl, hA, h2, rfl, .inr ⟨dx, _, rfl, upd_same, e1.sub.none hd1, by rw [h4]; rfl, rvs_cons hv rvs_nil⟩⟩
end
end Mch

/-! ## From the syntax to the machine's -/
namespace Mch
open PySem PySem.Spec PyProof.Rows L2
structure Cfg where
  N : List Str
  sc : Scope
  fn : Str → Bool := fun _ => true
  fns : List Str
  cls : List (Str × Nat)
  blts : List Str
  P : Prog
  xs : Option Nat := none
  exc : Bool := false
  calm : Bool := true
  stm : Bool := true
  ob : Bool := false
  ics : List (Str × Int) := []
  dcs : List Str := []
def Cfg.obj (c : Cfg) : Bool := c.ob && c.calm
def mapO {α β : Type} (f : α → Option β) : List α → Option (List β)
  | [] => some []
  | a :: r => match f a, mapO f r with
    | some b, some bs => some (b :: bs)
    | _, _ => none
def ixOf (x : Str) : List Str → Option Nat
  | [] => none
  | y :: r => if y = x then some 0 else (ixOf x r).map (· + 1)
theorem ixOf_get {x : Str} : ∀ {l : List Str} {i : Nat}, ixOf x l = some i → l[i]? = some x
  | [], _, h => by cases h
  | y :: r, i, h => by
    unfold ixOf at h
    split at h
    · rename_i e
      cases h
      rw [e]
      rfl
    · obtain ⟨j, h1, rfl⟩ := Option.map_eq_some_iff.mp h
      rw [List.getElem?_cons_succ]
      exact ixOf_get h1
def isVis : Option NameKind → Bool
  | some .local => true
  | some .cell => true
  | some .free => true
  | _ => false
def slotOf (c : Cfg) (x : Str) : Option Nat := if isVis (c.sc.names.lookup x) && (!(x == "__debug__") && !(x == "__classdict__")) then ixOf x c.N else none
def varOf (c : Cfg) (x : Str) : Option Nat := match slotOf c x with
  | some i => if c.xs = some i then none else some i
  | none => none
def isGl (c : Cfg) (x : Str) : Bool := decide (c.sc.names.lookup x = some .globalImplicit) && (!(x == "__debug__") && !(x == ""))
def allBI : List BI := [.abs, .len, .all, .any, .int, .str, .tuple, .list, .sum, .min, .max]
def biOf (x : Str) : Option BI := allBI.find? fun b => biName b == x
def allMt : List Mt := [.append, .join]
def mtOf (x : Str) : Option Mt := allMt.find? fun m => mtName m == x
def tyOfN (x : Str) : Option TyR := [TyR.int, .bool, .str, .list, .tuple, .dict].find? fun t => tyName t == some x
/-! ### expressions -/
def cConst : Const → Option E
  | .int i => some (.int i)
  | .bool b => some (.bl b)
  | .none => some .non
  | .str s => some (.str s)
  | _ => none
def cName (c : Cfg) (x : Str) : Option E := match varOf c x with
  | some i => some (.var i)
  | none => if isGl c x then (match c.ics.lookup x with
    | some i => some (.int i)
    | none => (ixOf x c.fns).map .fn) else none
def cEs (rec : PySem.Expr → Option E) (es : List PySem.Expr) : Option (List E) := if es.all plain then mapO rec es else none
def cTy (c : Cfg) : PySem.Expr → Option TyR
  | .Name x _ => if isGl c x then (match c.cls.lookup x with
    | some j => some (.cls j)
    | none => if c.blts.contains x then tyOfN x else none) else none
  | _ => none
def cIsin (c : Cfg) (A : E) : PySem.Expr → Option E
  | .Name x p => (cTy c (.Name x p)).map fun t => .isin A [t]
  | .Tuple es _ _ => if decide (es.length ≤ 50) && !es.isEmpty then (mapO (cTy c) es).map fun ts => .isin A ts else none
  | _ => none
/-- a class that is made -/
def mkOf (c : Cfg) (x : Str) : Option Nat := if c.ob then (match c.cls.lookup x with
  | some j => (match c.P.clss[j]? with
    | some C => if !C.exc && C.init.isSome then some j else none
    | none => none)
  | none => none) else none
def cStr (rec : PySem.Expr → Option E) : List PySem.Expr → Option E
  | [a] => if plain a then (rec a).map .ostr else none
  | _ => none
def cCallN (c : Cfg) (rec : PySem.Expr → Option E) (x : Str) (es : List PySem.Expr) : Option E := match varOf c x with
  | some i => (cEs rec es).map fun As => .callv i As
  | none => if isGl c x then (match ixOf x c.fns with
    | some f => (cEs rec es).map fun As => .call f As
    | none => match mkOf c x with
    | some j => (cEs rec es).map fun As => .mk j As
    | none => if c.ob && (x == "str") then (if c.blts.contains x then cStr rec es else none) else if c.blts.contains x then (if x = "isinstance" then (match es with
        | [a, t] => if plain a then (rec a).bind fun A => cIsin c A t else none
        | _ => none) else match biOf x with
        | some b => if es.isEmpty then none else (cEs rec es).map fun As => .bi b As
        | none => none) else none) else none
def cOmth (rec : PySem.Expr → Option E) (o : PySem.Expr) (m : Str) (apos : Pos) (es : List PySem.Expr) (pos : Pos) : Option E := if notCall0 o && ((apos.endLine == pos.line) && decide (es.length < 30)) then (match rec o, cEs rec es with
    | some O, some As => some (.omth m O As)
    | _, _ => none) else none
def cCallA (c : Cfg) (rec : PySem.Expr → Option E) (o : PySem.Expr) (m : Str) (apos : Pos) (es : List PySem.Expr) (pos : Pos) : Option E := match mtOf m with
  | some mt => if notCall0 o && ((apos.endLine == pos.line) && (decide (es.length < 30) && !es.isEmpty)) then (match rec o, cEs rec es with
    | some O, some As => some (.mth mt O As)
    | _, _ => none) else none
  | none => if c.obj then cOmth rec o m apos es pos else none
def cCall (c : Cfg) (rec : PySem.Expr → Option E) (pos : Pos) (es : List PySem.Expr) : PySem.Expr → Option E
  | .Name x _ => if c.calm then cCallN c rec x es else none
  | .Attribute o m apos => cCallA c rec o m apos es pos
  | _ => none
def cAttr (c : Cfg) (rec : PySem.Expr → Option E) (o : PySem.Expr) (f : Str) : Option E := if c.exc then (match o with
    | .Name n _ => (match slotOf c n with
      | some i => if c.xs = some i then some (.xfld i f) else none
      | none => none)
    | _ => none) else if notCall0 o then (rec o).map fun O => .fld O f else none
def cPart (rec : PySem.Expr → Option E) : Option PySem.Expr → Option E
  | none => some .non
  | some e => match rec e with
    | some A => if A.isNon then none else some A
    | none => none
/-- a dict of the top -/
def dcOf (c : Cfg) : PySem.Expr → Option Nat
  | .Name x _ => if isGl c x && (varOf c x).isNone then ixOf x c.dcs else none
  | _ => none
def cSub (c : Cfg) (rec : PySem.Expr → Option E) (a : PySem.Expr) : PySem.Expr → Option E
  | .Slice lo hi st _ => if st.isNone then (match rec a, cPart rec lo, cPart rec hi with
    | some A, some L, some H => some (.slc A L H)
    | _, _, _ => none) else none
  | b => if notSlice b then (match dcOf c a with
    | some j => (rec b).map fun B => .cdx j B
    | none => (match rec a, rec b with
    | some A, some B => some (.idx A B)
    | _, _ => none)) else none
def opOb : CmpOp → Bool
  | .Is => false
  | .IsNot => false
  | .In => false
  | .NotIn => false
  | _ => true
def cCmp (c : Cfg) (rec : PySem.Expr → Option E) (a : PySem.Expr) : List CmpOp → List PySem.Expr → Option E
  | [op], [b] => if notSet b then (match rec a, rec b with
    | some A, some B => some (if c.obj && opOb op then .ocmp op A B else .cmp op A B)
    | _, _ => none) else none
  | [o1, o2], [b, d] => if notSet d then (match rec a, rec b, rec d with
    | some A, some B, some D => some (.cmp2 o1 o2 A B D)
    | _, _, _ => none) else none
  | _, _ => none
def cBool (rec : PySem.Expr → Option E) (p : Pos) : BoolOp → List PySem.Expr → Option E
  | _, [a] => rec a
  | .And, a :: b :: r => (match rec a, rec (.BoolOp .And (b :: r) p) with
    | some A, some B => some (.and A B)
    | _, _ => none)
  | .Or, a :: b :: r => (match rec a, rec (.BoolOp .Or (b :: r) p) with
    | some A, some B => some (.or A B)
    | _, _ => none)
  | _, [] => none
/-- what is walked -/
def isRange : PySem.Expr → Option (Str × List PySem.Expr)
  | .Call (.Name x _) es [] _ => if x = "range" then some (x, es) else none
  | _ => none
def cIt (c : Cfg) (rec : PySem.Expr → Option E) (e : PySem.Expr) : Option E := if notSet e then (match isRange e with
  | some (x, es) => if c.blts.contains x && isGl c x then (match es with
    | [a] => (cEs rec [a]).map .rng
    | [a, b] => (cEs rec [a, b]).map .rng
    | _ => none) else none
  | none => rec e) else none
/-- a target of names -/
def cTg (c : Cfg) : Nat → PySem.Expr → Option E
  | 0, _ => none
  | n + 1, e => match e with
    | .Name x _ => (match varOf c x with
      | some i => if decide (c.sc.names.lookup x = some .local) || (decide (c.sc.names.lookup x = some .cell) && c.fn x) then some (.var i) else none
      | none => none)
    | .Tuple ts _ _ => if ts.all plain then (mapO (cTg c n) ts).map .tup else none
    | _ => none
def ownOf (c : Cfg) (scope : Scope) : List (Str × Nat) := scope.names.filterMap fun y => match y.2 with
  | .local => (ixOf y.1 c.N).map fun i => (y.1, i)
  | .cell => (ixOf y.1 c.N).map fun i => (y.1, i)
  | _ => none
def Cfg.inner (c : Cfg) (scope : Scope) : Cfg := { c with sc := relS scope c.sc, fn := fun x => scope.names.lookup x == some .cell, stm := false }
def cIf (rec : PySem.Expr → Option E) : List PySem.Expr → Option E
  | [] => some (.bl true)
  | [t] => rec t
  | _ => none
def cComp (c : Cfg) (rec : Cfg → PySem.Expr → Option E) (elt : PySem.Expr) (scope : Scope) : List Comprehension → Option E
  | [⟨tg, it, ifs, 0⟩] => if blkC c.N c.sc scope (ownOf c scope) then (match cIt c (rec c) it, cTg (c.inner scope) 9 tg, cIf (rec (c.inner scope)) ifs, rec (c.inner scope) elt with
    | some IT, some TG, some CD, some A => if (tgSlots TG).all fun i => ((ownOf c scope).map (·.2)).contains i then some (.comp A TG IT CD ((ownOf c scope).map (·.2))) else none
    | _, _, _, _ => none) else none
  | [⟨tg, it, ifs, 0⟩, ⟨tg1, it1, ifs1, 0⟩] => if blkC c.N c.sc scope (ownOf c scope) then (match cIt c (rec c) it, cTg (c.inner scope) 9 tg, cIf (rec (c.inner scope)) ifs, rec (c.inner scope) elt with
    | some IT, some TG, some CD, some A => (match cIt (c.inner scope) (rec (c.inner scope)) it1, cTg (c.inner scope) 9 tg1, cIf (rec (c.inner scope)) ifs1 with
      | some IT1, some TG1, some CD1 => if ((tgSlots TG).all fun i => ((ownOf c scope).map (·.2)).contains i) && ((tgSlots TG1).all fun i => ((ownOf c scope).map (·.2)).contains i) then some (.comp2 A TG IT CD TG1 IT1 CD1 ((ownOf c scope).map (·.2)) (tgSlots TG1)) else none
      | _, _, _ => none)
    | _, _, _, _ => none) else none
  | _ => none
/-- the parts of an f-string -/
def cFp (c : Cfg) (rec : PySem.Expr → Option E) : PySem.Expr → Option E
  | .Constant (.str s) _ _ => some (.str s)
  | .FormattedValue a n none _ => if c.obj && decide (n = -1) then (rec a).map .fmt else none
  | _ => none
def cJoin (c : Cfg) (rec : PySem.Expr → Option E) : List PySem.Expr → Option E
  | v1 :: v2 :: rest => (mapO (cFp c rec) (v1 :: v2 :: rest)).map .fstr
  | _ => none
def compE : Nat → Cfg → PySem.Expr → Option E
  | 0, _, _ => none
  | n + 1, c, e => match e with
    | .Constant v _ _ => cConst v
    | .Name x _ => cName c x
    | .BinOp a op b _ => (match compE n c a, compE n c b with
      | some A, some B => some (if c.obj then .obin op A B else .bin op A B)
      | _, _ => none)
    | .UnaryOp op a _ => (match op with
      | .USub => (compE n c a).map fun A => if c.obj then .oneg A else .neg A
      | .Not => (compE n c a).map .not
      | _ => none)
    | .Compare a ops bs _ => cCmp c (compE n c) a ops bs
    | .BoolOp op vs p => cBool (compE n c) p op vs
    | .IfExp t a b _ => (match compE n c t, compE n c a, compE n c b with
      | some C, some A, some B => some (.ite C A B)
      | _, _, _ => none)
    | .Tuple es _ _ => (cEs (compE n c) es).map .tup
    | .List es _ => (cEs (compE n c) es).map .lst
    | .Subscript a b _ => cSub c (compE n c) a b
    | .Attribute o f _ => cAttr c (compE n c) o f
    | .Call f es kw p => if kw.isEmpty then cCall c (compE n c) p es f else none
    | .JoinedStr vs _ => cJoin c (compE n c) vs
    | .ListComp elt gs scope _ => if c.calm && !c.exc then cComp c (compE n) elt scope gs else none
    | _ => none
end Mch

/-! ## What the compiler makes of an expression says what the expression does -/
namespace Mch
open PySem PySem.Spec PyProof.Rows L2
/-- the context is as the compiler takes it -/
structure XOk (X : Cx) (g : Glob) (T : Tab) (W : WX) (md : Md) (c : Cfg) (k : Nat) : Prop where
  N : X.N = c.N
  nd : X.N.Nodup
  sc : X.env.scope = c.sc
  bk : c.sc.kind = .function
  fn : ∀ x, X.fn x = c.fn x
  K : g.K = X.K
  TP : T.P = g.P
  cP : c.P = g.P
  un : X.A.units + 64 < cLine
  kit : KitG g
  exc : ExcG g
  fld : ∀ d C Cl, g.cA d = some C → g.P.clss[d]? = some Cl → Cl.init.isSome = true → L2.Cls g.K C ∧ ∀ f ∈ Cl.fields, NoAttr g.K C f
  calm : c.calm = true → X.calm = true ∧ Takes X W ∧ Room (k + 2) X.A
  obj : c.obj = true → ObjX X g T W k
  nodash : ∀ j, methOf g.P j "-" = none
  mks : ∀ (j : Nat) (C : Addr) (Cl : ClsM), g.cA j = some C → g.P.clss[j]? = some Cl → Cl.exc = false → Cl.init.isSome = true → IniOk g T X.prog X.w X.K X.mg X.base k j
  xfs : ∀ (j : Nat) (C : Addr) (Cl : ClsM) (f : Str), g.cA j = some C → g.P.clss[j]? = some Cl → Cl.exc = true → Cl.fields = [f] → ExF g X.prog X.w X.K X.mg X.base k j
  ics : ∀ x i, c.ics.lookup x = some i → ∃ t, X.mg x = some (.int i t)
  dcs : ∀ x j, ixOf x c.dcs = some j → ∃ D kvs, X.mg x = some (.ref D) ∧ g.P.dcs[j]? = some kvs ∧ dcB X.K D kvs = true
  hid : c.stm = true → md ≠ .hid0
  fnd : ∀ (j : Nat) (Cl : ClsM), g.P.clss[j]? = some Cl → Cl.init.isSome = true → Cl.fields.Nodup ∧ Cl.fields.length < 1000
  funs : ∀ (x : Str) f, x ≠ "" → ixOf x c.fns = some f → FunOk g T X.prog X.w X.K X.mg X.base k x f
  fadr : ∀ f a, g.fA f = some a → ∃ x, FunOk g T X.prog X.w X.K X.mg X.base k x f
  cls : ∀ x j, c.cls.lookup x = some j → ∃ C, g.cA j = some C ∧ X.mg x = some (.ref C)
  blt : ∀ x, x ∈ c.blts → X.mg x = none
  mdx : ∀ i, md.ex i = decide (c.xs = some i)
  sui : (c.exc = false ∧ ∀ j a c d, md ≠ .exc j a c d) ∨ (c.exc = true ∧ c.calm = false ∧ W = W0 ∧ ∃ i a cl d X0 oe pn, md = .exc i a cl d ∧ X = Cx.suite X0 a ((a, oe) :: pn) ∧ Zc cl d oe ∧ ∃ vs, oe.data = .fields vs)
section
variable {X : Cx} {g : Glob} {T : Tab} {W : WX} {md : Md} {c : Cfg} {k : Nat} {e a b : PySem.Expr} {A B : E} {pos : Pos}
structure EOk (X : Cx) (g : Glob) (T : Tab) (W : WX) (md : Md) (e : PySem.Expr) (A : E) : Prop where
  pe : PE X e (tE g T W md A)
  pt : PT X e (tT g T W md A)
  pw : ∀ op vs p, e = .BoolOp op vs p → PW X e (tT g T W md A)
theorem EOk.of (hK : g.K = X.K) (h : PE X e (tE g T W md A)) (he : ∀ whole, isTrue e X.env whole = (do let v ← whole; standAt e.pos; holding [v] (truthy v))) (hb : ∀ op vs p, e ≠ .BoolOp op vs p) : EOk X g T W md e A :=
  ⟨h, pt_tru hK h he, fun op vs p z => absurd z (hb op vs p)⟩
def RecOk (rec : PySem.Expr → Option E) (X : Cx) (g : Glob) (T : Tab) (W : WX) (md : Md) : Prop := ∀ e A, rec e = some A → EOk X g T W md e A
variable {rec : PySem.Expr → Option E}
theorem XOk.slot (h : XOk X g T W md c k) {x : Str} {i : Nat} (hs : slotOf c x = some i) : X.N[i]? = some x ∧ Vis X.env.scope x ∧ (x == ("__debug__" : Str)) = false ∧ (x == ("__classdict__" : Str)) = false := by
  unfold slotOf at hs
  split at hs
  · rename_i hc
    simp only [Bool.and_eq_true, Bool.not_eq_true'] at hc
    obtain ⟨h1, h2, h3⟩ := hc
    refine ⟨by rw [h.N]; exact ixOf_get hs, ?_, h2, h3⟩
    rw [h.sc]
    unfold isVis at h1
    split at h1
    · exact .inl (by assumption)
    · exact .inr (.inl (by assumption))
    · exact .inr (.inr (by assumption))
    · cases h1
  · cases hs
theorem XOk.var (h : XOk X g T W md c k) {x : Str} {i : Nat} (hs : varOf c x = some i) : slotOf c x = some i ∧ md.ex i = false := by
  unfold varOf at hs
  split at hs
  · rename_i j hj
    split at hs
    · cases hs
    · rename_i hne
      cases hs
      exact ⟨hj, by rw [h.mdx]; simpa using hne⟩
  · cases hs
theorem gl_ne {x : Str} (hs : isGl c x = true) : x ≠ "" := by
  unfold isGl at hs
  simp only [Bool.and_eq_true, decide_eq_true_eq, Bool.not_eq_true', beq_eq_false_iff_ne] at hs
  exact hs.2.2
theorem XOk.gl (h : XOk X g T W md c k) {x : Str} (hs : isGl c x = true) : Gl X x ∧ (x == ("__debug__" : Str)) = false := by
  unfold isGl at hs
  simp only [Bool.and_eq_true, decide_eq_true_eq, Bool.not_eq_true'] at hs
  refine ⟨?_, hs.2.1⟩
  show X.env.scope.names.lookup x = _
  rw [h.sc]
  exact hs.1
theorem const_ok (hK : g.K = X.K) {v : Const} {j : Nat} (h : cConst v = some A) : EOk X g T W md (.Constant v j pos) A := by
  cases v <;> simp only [cConst, Option.some.injEq, reduceCtorEq] at h
  · subst h; exact .of hK (se_const pe_non (v := .non) (fun _ _ => by simp only [RV]) fun _ _ => by simp only [evE]) (fun _ => rfl) fun _ _ _ z => by cases z
  · rename_i z; subst h; exact .of hK (se_const pe_bl (v := .bl z) (fun _ _ => by simp only [RV]) fun _ _ => by simp only [evE]) (fun _ => rfl) fun _ _ _ z => by cases z
  · rename_i z; subst h; exact .of hK (se_const pe_int (v := .int z) (fun _ _ => by simp only [RV]) fun _ _ => by simp only [evE]) (fun _ => rfl) fun _ _ _ z => by cases z
  · rename_i z; subst h; exact .of hK (se_const pe_str (v := .str z) (fun _ _ => by simp only [RV]) fun _ _ => by simp only [evE]) (fun _ => rfl) fun _ _ _ z => by cases z
theorem name_ok (h : XOk X g T W md c k) {x : Str} (hs : cName c x = some A) : EOk X g T W md (.Name x pos) A := by
  unfold cName at hs
  split at hs
  · rename_i i hi
    cases hs
    obtain ⟨h1, h2⟩ := h.var hi
    obtain ⟨h3, h4, h5, h6⟩ := h.slot h1
    exact .of h.K (se_var (pe_var h3 h4 h5 h6) h2) (fun _ => rfl) fun _ _ _ z => by cases z
  · split at hs
    · rename_i hg
      split at hs
      · rename_i i hi
        cases hs
        obtain ⟨t, h1⟩ := h.ics x i hi
        obtain ⟨g1, g2⟩ := h.gl hg
        exact .of h.K (se_const (pe_glob (v := .int i) g1 h1 ⟨t, rfl⟩ g2) (v := .int i) (fun _ _ => by simp only [RV]) fun _ _ => by simp only [evE]) (fun _ => rfl) fun _ _ _ z => by cases z
      obtain ⟨f, h1, rfl⟩ := Option.map_eq_some_iff.mp hs
      obtain ⟨a, fd, ps, dvs, D, h2, h3, _⟩ := (h.funs x f (gl_ne hg) h1).ex
      obtain ⟨g1, g2⟩ := h.gl hg
      exact .of h.K (se_const (pe_glob (v := .ref a) g1 h3 rfl g2) (v := .fn f) (fun _ _ => by simp only [RV]; exact ⟨a, rfl, h2⟩) fun _ _ => by simp only [evE]) (fun _ => rfl) fun _ _ _ z => by cases z
    · cases hs
theorem mapO_ok (hr : RecOk rec X g T W md) : ∀ {es : List PySem.Expr} {As : List E}, es.all plain = true → mapO rec es = some As → PA X es (tEs g T W md As) ∧ es.length = As.length
  | [], As, _, h => by
    simp only [mapO, Option.some.injEq] at h
    subst h
    exact ⟨sa_nil, rfl⟩
  | e :: es, As, hp, h => by
    rw [List.all_cons, Bool.and_eq_true] at hp
    simp only [mapO] at h
    split at h
    · rename_i A As' h1 h2
      cases h
      obtain ⟨q1, q2⟩ := mapO_ok hr hp.2 h2
      exact ⟨sa_cons hp.1 (hr e A h1).pe q1, by simp [q2]⟩
    · cases h
theorem es_ok (hr : RecOk rec X g T W md) {es : List PySem.Expr} {As : List E} (h : cEs rec es = some As) : es.all plain = true ∧ PA X es (tEs g T W md As) ∧ es.length = As.length := by
  unfold cEs at h
  split at h
  · rename_i hp
    exact ⟨hp, mapO_ok hr hp h⟩
  · cases h
theorem ty_ok (h : XOk X g T W md c k) {t : TyR} {e : PySem.Expr} (hs : cTy c e = some t) : plain e = true ∧ PCl X g e t := by
  unfold cTy at hs
  split at hs
  · rename_i x p
    refine ⟨rfl, ?_⟩
    split at hs
    · rename_i hg
      obtain ⟨g1, g2⟩ := h.gl hg
      split at hs
      · rename_i j hj
        cases hs
        obtain ⟨C, h1, h2⟩ := h.cls x j hj
        exact pcl_cls h1 g1 h2 g2
      · split at hs
        · rename_i hb
          have hb : x ∈ c.blts := by simpa using hb
          have := List.find?_some hs
          exact pcl_ty (by simpa using this) g1 (h.blt x hb)
        · cases hs
    · cases hs
  · cases hs
theorem tys_ok (h : XOk X g T W md c k) : ∀ {es : List PySem.Expr} {ts : List TyR}, mapO (cTy c) es = some ts → PCls X g es ts ∧ es.length = ts.length
  | [], ts, hs => by
    simp only [mapO, Option.some.injEq] at hs
    subst hs
    exact ⟨pcls_nil, rfl⟩
  | e :: es, ts, hs => by
    simp only [mapO] at hs
    split at hs
    · rename_i t ts' h1 h2
      cases hs
      obtain ⟨q1, q2⟩ := tys_ok h h2
      obtain ⟨q3, q4⟩ := ty_ok h h1
      exact ⟨pcls_cons q3 q4 q1, by simp [q2]⟩
    · cases hs
theorem isin_ok (h : XOk X g T W md c k) (hc : X.calm = true) {t : PySem.Expr} {R : E} {p : Pos} (hg : isGl c "isinstance" = true) (hm : ("isinstance" : Str) ∈ c.blts) (hp : plain a = true) (ha : EOk X g T W md a A) (hs : cIsin c A t = some R) : EOk X g T W md (.Call (.Name "isinstance" p) [a, t] [] pos) R := by
  obtain ⟨g1, g2⟩ := h.gl hg
  have m1 := h.blt _ hm
  unfold cIsin at hs
  split at hs
  · obtain ⟨ty, h1, rfl⟩ := Option.map_eq_some_iff.mp hs
    obtain ⟨q1, q2⟩ := ty_ok h h1
    exact .of h.K (se_isin h.kit h.TP h.K g1 m1 hp q1 ha.pe q2) (fun _ => rfl) fun _ _ _ z => by cases z
  · split at hs
    · rename_i es j p' hl
      simp only [Bool.and_eq_true, decide_eq_true_eq, Bool.not_eq_true', List.isEmpty_eq_false_iff] at hl
      obtain ⟨ts, h1, rfl⟩ := Option.map_eq_some_iff.mp hs
      obtain ⟨q1, q2⟩ := tys_ok h h1
      refine .of h.K (se_isinT h.kit h.TP h.K g1 m1 hp hl.1 (fun z => hl.2 ?_) ha.pe q1) (fun _ => rfl) fun _ _ _ z => by cases z
      rw [z] at q2
      exact List.length_eq_zero_iff.mp q2
    · cases hs
  · cases hs
theorem callN_ok (h : XOk X g T W md c k) (hr : RecOk rec X g T W md) (hc : c.calm = true) {x : Str} {p : Pos} {es : List PySem.Expr} (hs : cCallN c rec x es = some A) : EOk X g T W md (.Call (.Name x p) es [] pos) A := by
  obtain ⟨c1, c2, c4⟩ := h.calm hc
  have c3 : Room k X.A := c4.mono (by omega)
  unfold cCallN at hs
  split at hs
  · rename_i i hi
    obtain ⟨As, h0, rfl⟩ := Option.map_eq_some_iff.mp hs
    obtain ⟨q1, q2, q3⟩ := es_ok hr h0
    obtain ⟨h1, h2⟩ := h.var hi
    obtain ⟨h3, h4, h5, h6⟩ := h.slot h1
    exact .of h.K (se_callv h.fadr c3 c2 h3 h4 h2 h5 h6 q1 q3 q2) (fun _ => rfl) fun _ _ _ z => by cases z
  · split at hs
    · rename_i hg
      obtain ⟨g1, g2⟩ := h.gl hg
      split at hs
      · rename_i f hf
        obtain ⟨As, h0, rfl⟩ := Option.map_eq_some_iff.mp hs
        obtain ⟨q1, q2, q3⟩ := es_ok hr h0
        exact .of h.K (se_call (h.funs x f (gl_ne hg) hf) c3 c2 g1 g2 q1 q3 q2) (fun _ => rfl) fun _ _ _ z => by cases z
      · split at hs
        · rename_i j hj
          obtain ⟨As, h0, rfl⟩ := Option.map_eq_some_iff.mp hs
          obtain ⟨q1, q2, q3⟩ := es_ok hr h0
          unfold mkOf at hj
          split at hj
          · split at hj
            · rename_i j' hl
              split at hj
              · rename_i Cl hC
                split at hj
                · rename_i hi
                  cases hj
                  simp only [Bool.and_eq_true, Bool.not_eq_true'] at hi
                  obtain ⟨C, k1, k2⟩ := h.cls x _ hl
                  rw [h.cP] at hC
                  exact .of h.K (se_mk (h.mks _ C Cl k1 hC hi.1 hi.2) h.TP k1 (c4.mono (by omega)) c2 g1 k2 g2 q1 q3 q2) (fun _ => rfl) fun _ _ _ z => by cases z
                · cases hj
              · cases hj
            · cases hj
          · cases hj
        split at hs
        · rename_i hob
          rw [Bool.and_eq_true] at hob
          have hxs : x = "str" := by simpa using hob.2
          subst hxs
          split at hs
          · rename_i hb
            have hb : ("str" : Str) ∈ c.blts := by simpa using hb
            unfold cStr at hs
            split at hs
            · rename_i a
              split at hs
              · rename_i hp
                obtain ⟨A', h1, rfl⟩ := Option.map_eq_some_iff.mp hs
                exact .of h.K (se_ostr (h.obj (by unfold Cfg.obj; rw [hob.1, hc]; rfl)) c1 g1 (h.blt _ hb) hp (hr a A' h1).pe) (fun _ => rfl) fun _ _ _ z => by cases z
              · cases hs
            · cases hs
          · cases hs
        split at hs
        · rename_i hb
          have hb : x ∈ c.blts := by simpa using hb
          split at hs
          · rename_i hx
            subst hx
            split at hs
            · rename_i a t
              split at hs
              · rename_i hp
                obtain ⟨A', h1, h2⟩ := Option.bind_eq_some_iff.mp hs
                exact isin_ok h c1 hg hb hp (hr a A' h1) h2
              · cases hs
            · cases hs
          · split at hs
            · rename_i b hbi
              have hbn : biName b = x := by simpa using List.find?_some hbi
              split at hs
              · cases hs
              · rename_i hne
                obtain ⟨As, h0, rfl⟩ := Option.map_eq_some_iff.mp hs
                obtain ⟨q1, q2, q3⟩ := es_ok hr h0
                subst hbn
                cases es with
                | nil => exact absurd rfl hne
                | cons e es => exact .of h.K (se_bi c1 h.K g1 (h.blt _ hb) q1 q2) (fun _ => rfl) fun _ _ _ z => by cases z
            · cases hs
        · cases hs
    · cases hs
theorem callA_ok (h : XOk X g T W md c k) (hr : RecOk rec X g T W md) {o : PySem.Expr} {m : Str} {apos : Pos} {es : List PySem.Expr} (hs : cCallA c rec o m apos es pos = some A) : EOk X g T W md (.Call (.Attribute o m apos) es [] pos) A := by
  unfold cCallA at hs
  split at hs
  · rename_i mt hm
    have hmn : mtName mt = m := by simpa using List.find?_some hm
    subst hmn
    split at hs
    · rename_i hl
      simp only [Bool.and_eq_true, decide_eq_true_eq, Bool.not_eq_true', List.isEmpty_eq_false_iff] at hl
      obtain ⟨l1, l2, l3, l4⟩ := hl
      split at hs
      · rename_i O As h1 h2
        cases hs
        obtain ⟨q1, q2, q3⟩ := es_ok hr h2
        cases es with
        | nil => exact absurd rfl l4
        | cons e es => exact .of h.K (se_mth h.K (hr o O h1).pe l1 l2 q1 l3 q2) (fun _ => rfl) fun _ _ _ z => by cases z
      · cases hs
    · cases hs
  · split at hs
    · rename_i hob
      unfold cOmth at hs
      split at hs
      · rename_i hl
        simp only [Bool.and_eq_true, decide_eq_true_eq] at hl
        obtain ⟨l1, l2, l3⟩ := hl
        split at hs
        · rename_i O As h1 h2
          cases hs
          obtain ⟨q1, q2, q3⟩ := es_ok hr h2
          exact .of h.K (se_omth (h.obj hob) l1 l2 q1 l3 q3 (hr o O h1).pe q2) (fun _ => rfl) fun _ _ _ z => by cases z
        · cases hs
      · cases hs
    · cases hs
theorem call_ok (h : XOk X g T W md c k) (hr : RecOk rec X g T W md) {f : PySem.Expr} {es : List PySem.Expr} (hs : cCall c rec pos es f = some A) : EOk X g T W md (.Call f es [] pos) A := by
  unfold cCall at hs
  split at hs
  · split at hs
    · rename_i hc
      exact callN_ok h hr hc hs
    · cases hs
  · exact callA_ok h hr hs
  · cases hs
theorem attr_ok (h : XOk X g T W md c k) (hr : RecOk rec X g T W md) {o : PySem.Expr} {f : Str} (hs : cAttr c rec o f = some A) : EOk X g T W md (.Attribute o f pos) A := by
  unfold cAttr at hs
  split at hs
  · rename_i hx
    split at hs
    · rename_i n p
      split at hs
      · rename_i i hi
        split at hs
        · rename_i hxs
          cases hs
          rcases h.sui with ⟨h1, _⟩ | ⟨_, _, rfl, i', a, cl, d, X0, oe, pn, rfl, rfl, hz, hv⟩
          · rw [h1] at hx
            cases hx
          · have hii : i' = i := by
              have := h.mdx i
              rw [hxs] at this
              simp [Md.ex] at this
              exact this.symm
            subst hii
            obtain ⟨h3, h4, h5, h6⟩ := h.slot hi
            refine .of h.K (sx_fld h.exc h.TP h.K hz hv (pe_var (X := Cx.suite X0 a ((a, oe) :: pn)) h3 h4 h5 h6)) (fun _ => rfl) fun _ _ _ z => by cases z
        · cases hs
      · cases hs
    · cases hs
  · split at hs
    · rename_i hb
      obtain ⟨O, h1, rfl⟩ := Option.map_eq_some_iff.mp hs
      exact .of h.K (se_fld h.fld h.TP h.K (hr o O h1).pe hb) (fun _ => rfl) fun _ _ _ z => by cases z
    · cases hs
theorem part_ok (hr : RecOk rec X g T W md) {o : Option PySem.Expr} (hs : cPart rec o = some A) : PO X o (tP g T W md A) := by
  unfold cPart at hs
  split at hs
  · cases hs
    exact po_no
  · split at hs
    · rename_i e' A' h1
      split at hs
      · cases hs
      · rename_i hn
        cases hs
        exact po_so (by simpa using hn) (hr _ _ h1).pe
    · cases hs
theorem sub_ok (h : XOk X g T W md c k) (hr : RecOk rec X g T W md) (hs : cSub c rec a b = some A) : EOk X g T W md (.Subscript a b pos) A := by
  have hK := h.K
  unfold cSub at hs
  split at hs
  · rename_i lo hi st p
    split at hs
    · rename_i hst
      have e0 : st = none := by simpa using hst
      subst e0
      split at hs
      · rename_i A' L H h1 h2 h3
        cases hs
        exact .of hK (se_slc hK (hr _ _ h1).pe (part_ok hr h2) (part_ok hr h3)) (fun _ => rfl) fun _ _ _ z => by cases z
      · cases hs
    · cases hs
  · split at hs
    · rename_i hn
      split at hs
      · rename_i j hj
        obtain ⟨B', h1, rfl⟩ := Option.map_eq_some_iff.mp hs
        unfold dcOf at hj
        split at hj
        · rename_i x p
          split at hj
          · rename_i hg
            rw [Bool.and_eq_true] at hg
            obtain ⟨g1, g2⟩ := h.gl hg.1
            obtain ⟨D, kvs, d1, d2, d3⟩ := h.dcs x j hj
            exact .of hK (se_cdx h.TP g1 d1 g2 d3 d2 hn (hr _ _ h1).pe) (fun _ => rfl) fun _ _ _ z => by cases z
          · cases hj
        · cases hj
      split at hs
      · rename_i A' B' h1 h2
        cases hs
        exact .of hK (se_idx hK hn (hr _ _ h1).pe (hr _ _ h2).pe) (fun _ => rfl) fun _ _ _ z => by cases z
      · cases hs
    · cases hs
theorem cmp_okE (h : XOk X g T W md c k) (hr : RecOk rec X g T W md) {ops : List CmpOp} {bs : List PySem.Expr} (hs : cCmp c rec a ops bs = some A) : EOk X g T W md (.Compare a ops bs pos) A := by
  unfold cCmp at hs
  split at hs
  · split at hs
    · rename_i hn
      split at hs
      · rename_i A' B' h1 h2
        cases hs
        split
        · rename_i hob
          rw [Bool.and_eq_true] at hob
          exact ⟨se_ocmp (h.obj hob.1) h.un hn (hr _ _ h1).pe (hr _ _ h2).pe, st_ocmp (h.obj hob.1) h.un hn (hr _ _ h1).pe (hr _ _ h2).pe, fun _ _ _ z => by cases z⟩
        exact ⟨se_cmp h.K h.un hn (hr _ _ h1).pe (hr _ _ h2).pe, st_cmp h.K h.un hn (hr _ _ h1).pe (hr _ _ h2).pe, fun _ _ _ z => by cases z⟩
      · cases hs
    · cases hs
  · split at hs
    · rename_i hn
      split at hs
      · rename_i A' B' D' h1 h2 h3
        cases hs
        exact ⟨se_cmp2 h.K h.un hn (hr _ _ h1).pe (hr _ _ h2).pe (hr _ _ h3).pe, st_cmp2 h.K h.un hn (hr _ _ h1).pe (hr _ _ h2).pe (hr _ _ h3).pe, fun _ _ _ z => by cases z⟩
      · cases hs
    · cases hs
  · cases hs
theorem bool1_pe {op : BoolOp} {t : TE} (h : PE X a t) : PE X (.BoolOp op [a] pos) t := by
  refine ⟨fun pins s σ H Q I hh => ?_⟩
  have := h.run pins s σ H Q I hh
  show wpAny _ _ (boolOp pos op (evalEach [a] X.env)) _ _ _
  exact this
theorem bool_ok (hK : g.K = X.K) (hr : RecOk rec X g T W md) {op : BoolOp} {vs : List PySem.Expr} (hs : cBool rec pos op vs = some A) : EOk X g T W md (.BoolOp op vs pos) A := by
  unfold cBool at hs
  split at hs
  · have q := hr _ _ hs
    cases op
    · exact ⟨bool1_pe q.pe, (pw_and1 q.pt).pt, fun _ _ _ _ => pw_and1 q.pt⟩
    · exact ⟨bool1_pe q.pe, (pw_or1 q.pt).pt, fun _ _ _ _ => pw_or1 q.pt⟩
  · split at hs
    · rename_i A' B' h1 h2
      cases hs
      have q1 := hr _ _ h1
      have q2 := hr _ _ h2
      have w := sw_and (pos := pos) q1.pt (q2.pw _ _ _ rfl)
      exact ⟨se_and hK q1.pe q2.pe, w.pt, fun _ _ _ _ => w⟩
    · cases hs
  · split at hs
    · rename_i A' B' h1 h2
      cases hs
      have q1 := hr _ _ h1
      have q2 := hr _ _ h2
      have w := sw_or (pos := pos) q1.pt (q2.pw _ _ _ rfl)
      exact ⟨se_or hK q1.pe q2.pe, w.pt, fun _ _ _ _ => w⟩
    · cases hs
  · cases hs
/-! ### f-strings -/
theorem fps_ok (h : XOk X g T W md c k) (hr : RecOk rec X g T W md) : ∀ {es : List PySem.Expr} {As : List E}, mapO (cFp c rec) es = some As → PJ X es (As.map fun A => tE g T W md A)
  | [], As, hs => by
    simp only [mapO, Option.some.injEq] at hs
    subst hs
    exact .nil
  | e :: es, As, hs => by
    simp only [mapO] at hs
    split at hs
    · rename_i A As' h1 h2
      cases hs
      refine .cons ?_ (fps_ok h hr h2)
      unfold cFp at h1
      split at h1
      · rename_i z j p
        cases h1
        exact se_const (pe_str (x := z)) (v := .str z) (fun _ _ => by simp only [RV]) fun _ _ => by simp only [evE]
      · rename_i a n p
        split at h1
        · rename_i hn
          rw [Bool.and_eq_true, decide_eq_true_eq] at hn
          obtain ⟨ho, rfl⟩ := hn
          obtain ⟨A', h3, rfl⟩ := Option.map_eq_some_iff.mp h1
          exact se_fmt (h.obj ho) (hr _ _ h3).pe
        · cases h1
      · cases h1
    · cases hs
theorem join_ok (h : XOk X g T W md c k) (hr : RecOk rec X g T W md) {es : List PySem.Expr} (hs : cJoin c rec es = some A) : EOk X g T W md (.JoinedStr es pos) A := by
  unfold cJoin at hs
  split at hs
  · obtain ⟨As, h1, rfl⟩ := Option.map_eq_some_iff.mp hs
    exact .of h.K (se_fstr (fps_ok h hr h1)) (fun _ => rfl) fun _ _ _ z => by cases z
  · cases hs
theorem st_ite {t : PySem.Expr} {C : E} (hc : PT X t (tT g T W md C)) (ha : PT X a (tT g T W md A)) (hb : PT X b (tT g T W md B)) : PT X (.IfExp t a b pos) (tT g T W md (.ite C A B)) := by
  refine ⟨fun pins s σ H Q I h => ?_⟩
  obtain ⟨φ, G, μ, σm, sb, r, e, h⟩ := h
  simp only [evE] at h
  show wpAny _ _ (do if ← isTrue t X.env (eval t X.env) then isTrue a X.env (eval a X.env) else isTrue b X.env (eval b X.env)) _ _ _
  refine wpAny_bind (thn (hc.run pins s σ H (fun kb H1 => if kb = true then tT g T W md A σ H1 Q else tT g T W md B σ H1 Q) I ⟨φ, G, μ, σm, sb, r, e, ?_⟩) fun kb s1 hk => ?_)
  · cases e0 : evE T C σm μ with
    | ok v μ1 =>
      rw [e0] at h
      simp only [R.bind] at h ⊢
      unfold truR at h ⊢
      cases e1 : truM μ1 v with
      | none => rw [e1] at h; exact h.elim
      | some kb =>
        rw [e1] at h
        intro φ1 G1 H1 x1 r1
        cases kb with
        | true => exact ⟨φ1, G1, μ1, σm, x1.sub, r1, e.ext x1, Good.ext (r := (evE T A σm μ1).bind truR) h x1⟩
        | false => exact ⟨φ1, G1, μ1, σm, x1.sub, r1, e.ext x1, Good.ext (r := (evE T B σm μ1).bind truR) h x1⟩
    | exc x μ1 => rw [e0] at h; exact h
    | no => rw [e0] at h; exact h
  · obtain ⟨H1, I1, q1⟩ := hk
    cases kb with
    | true => exact ha.run pins s1 σ H1 Q I1 q1
    | false => exact hb.run pins s1 σ H1 Q I1 q1
end
end Mch

/-! ## The compiler: targets, walks, comprehensions; all expressions -/
namespace Mch
open PySem PySem.Spec PyProof.Rows L2
section
variable {X : Cx} {g : Glob} {T : Tab} {W : WX} {md : Md} {c : Cfg} {k : Nat} {e a b : PySem.Expr} {A B : E} {pos : Pos} {rec : PySem.Expr → Option E}
theorem loc_ok (h : XOk X g T W md c k) {x : Str} (hs : (decide (c.sc.names.lookup x = some .local) || (decide (c.sc.names.lookup x = some .cell) && c.fn x)) = true) : L2.Loc X.env.scope x ∧ (X.fn x = true ∨ X.env.scope.names.lookup x = some .local) := by
  simp only [Bool.or_eq_true, decide_eq_true_eq, Bool.and_eq_true] at hs
  unfold L2.Loc
  rw [h.sc, h.fn]
  rcases hs with hs | ⟨h1, h2⟩
  · exact ⟨.inl hs, .inr hs⟩
  · exact ⟨.inr h1, .inl h2⟩
theorem tg_ok (h : XOk X g T W md c k) (hc : X.calm = true) : ∀ {n : Nat} {e : PySem.Expr} {A : E}, cTg c n e = some A → PG X e (gB g md A) ∧ ∀ i ∈ tgSlots A, md.ex i = false
  | 0, e, A, hs => by simp only [cTg] at hs; cases hs
  | n + 1, e, A, hs => by
    simp only [cTg] at hs
    split at hs
    · split at hs
      · rename_i i hi
        split at hs
        · rename_i hl
          cases hs
          obtain ⟨h1, h2⟩ := h.var hi
          obtain ⟨h3, h4, h5, h6⟩ := h.slot h1
          obtain ⟨l1, l2⟩ := loc_ok h hl
          exact ⟨sg_var h.nd h3 l1 l2, fun j hj => by simp only [tgSlots, List.mem_singleton] at hj; rw [hj]; exact h2⟩
        · cases hs
      · cases hs
    · split at hs
      · rename_i ts j p hp
        obtain ⟨As, h1, rfl⟩ := Option.map_eq_some_iff.mp hs
        have q : ∀ {ts : List PySem.Expr} {As : List E}, ts.all plain = true → mapO (cTg c n) ts = some As → PGs X ts (gBs g md As) ∧ ts.length = As.length ∧ ∀ i ∈ tgSlotss As, md.ex i = false := by
          intro ts
          induction ts with
          | nil =>
            intro As _ hm
            simp only [mapO, Option.some.injEq] at hm
            subst hm
            exact ⟨sgs_nil, rfl, fun i hi => by simp [tgSlotss] at hi⟩
          | cons t ts ih =>
            intro As hp hm
            rw [List.all_cons, Bool.and_eq_true] at hp
            simp only [mapO] at hm
            split at hm
            · rename_i A As' e1 e2
              cases hm
              obtain ⟨i1, i2, i3⟩ := ih hp.2 e2
              obtain ⟨j1, j2⟩ := tg_ok h hc e1
              refine ⟨sgs_cons hp.1 j1 i1, by simp [i2], fun i hi => ?_⟩
              simp only [tgSlotss, List.mem_append] at hi
              exact hi.elim (j2 i) (i3 i)
            · cases hm
        obtain ⟨q1, q2, q3⟩ := q hp h1
        exact ⟨sg_tup hc h.K hp q2 q1, fun i hi => q3 i (by simpa only [tgSlots] using hi)⟩
      · cases hs
    · cases hs
theorem range_of {x : Str} {es : List PySem.Expr} (h : isRange e = some (x, es)) : ∃ p p', x = "range" ∧ e = .Call (.Name "range" p) es [] p' := by
  unfold isRange at h
  split at h
  · split at h
    · rename_i hx
      cases h
      subst hx
      exact ⟨_, _, rfl, rfl⟩
    · cases h
  · cases h
theorem it_ok (h : XOk X g T W md c k) (hr : RecOk rec X g T W md) {tg : PySem.Expr} (hs : cIt c rec e = some A) : PI X tg e (tI g T W md A) ∧ notSet e = true := by
  unfold cIt at hs
  split at hs
  · rename_i hn
    refine ⟨?_, hn⟩
    split at hs
    · rename_i x es hrg
      obtain ⟨p, p', rfl, rfl⟩ := range_of hrg
      split at hs
      · rename_i hb
        simp only [Bool.and_eq_true, List.contains_eq_mem, decide_eq_true_eq] at hb
        obtain ⟨g1, g2⟩ := h.gl hb.2
        have m1 := h.blt _ hb.1
        split at hs
        · obtain ⟨As, h0, rfl⟩ := Option.map_eq_some_iff.mp hs
          obtain ⟨q1, q2, q3⟩ := es_ok hr h0
          match As, q3 with
          | [B], _ =>
            simp only [List.all_cons, List.all_nil, Bool.and_true] at q1
            exact si_rng1 g1 m1 q1 q2
        · obtain ⟨As, h0, rfl⟩ := Option.map_eq_some_iff.mp hs
          obtain ⟨q1, q2, q3⟩ := es_ok hr h0
          match As, q3 with
          | [B, C], _ =>
            simp only [List.all_cons, List.all_nil, Bool.and_true, Bool.and_eq_true] at q1
            exact si_rng2 g1 m1 q1.1 q1.2 q2
        · cases hs
      · cases hs
    · exact si_val h.K (hr _ _ hs).pe
  · cases hs
theorem blk_ex (hmd : ∀ j a c d, md ≠ .exc j a c d) (i : Nat) : md.blk.ex i = md.ex i := by
  cases md with
  | exc j a c d => exact absurd rfl (hmd j a c d)
  | _ => rfl
theorem blk_ne (md : Md) : ∀ j a c d, md.blk ≠ .exc j a c d := by
  cases md <;> intro _ _ _ _ z <;> cases z
/-- within a comprehension -/
theorem XOk.inner (h : XOk X g T W md c k) (he : c.exc = false) (hc : c.calm = true) {scope : Scope} (hb : blkC c.N c.sc scope (ownOf c scope) = true) (s : Shared) (H : Hp) (C : Addr) (cl : List (Str × Addr)) (fp : List Addr) :
    XOk (X.blk s H scope (compEnvC scope cl C X.env) fp) g T W0 md.blk (c.inner scope) k := by
  obtain ⟨c1, c2, c3⟩ := h.calm hc
  have hmd : ∀ j a c d, md ≠ .exc j a c d := by
    rcases h.sui with ⟨_, z⟩ | ⟨z, _⟩
    · exact z
    · rw [he] at z; cases z
  have hk := (blkOk_by hb).kind
  exact ⟨h.N, h.nd, by show relS scope X.env.scope = relS scope c.sc; rw [h.sc], hk, fun x => rfl, h.K, h.TP, h.cP, h.un, h.kit, h.exc, h.fld, fun _ => ⟨c1, takes0, c3⟩, fun z => (let o := h.obj z; ⟨o.K, o.TP, o.o, o.kit, o.met, o.hr2, takes0⟩), h.nodash, h.mks, h.xfs, h.ics, h.dcs, (fun z => by cases z), h.fnd, h.funs, h.fadr, h.cls, h.blt, fun i => by rw [blk_ex hmd]; exact h.mdx i, .inl ⟨he, blk_ne md⟩⟩
theorem if_ok (hr : RecOk rec X g T W md) {ifs : List PySem.Expr} (hs : cIf rec ifs = some A) : PTs X ifs (tT g T W md A) := by
  unfold cIf at hs
  split at hs
  · cases hs
    refine ⟨fun pins s σ H Q I h => pts_nil.run pins s σ H Q I ?_⟩
    obtain ⟨φ, G, μ, σm, sb, r, e, h⟩ := h
    simp only [evE] at h
    exact Good.here (a := true) (μ := μ) h sb r
  · exact pts_one (hr _ _ hs).pt
  · cases hs
theorem comp_ok {recC : Cfg → PySem.Expr → Option E} (h : XOk X g T W md c k) (he : c.exc = false) (hc : c.calm = true) (hr : ∀ X W md c, XOk X g T W md c k → RecOk (recC c) X g T W md) {elt : PySem.Expr} {scope : Scope} {gs : List Comprehension} (hs : cComp c recC elt scope gs = some A) :
    PE X (.ListComp elt gs scope pos) (tE g T W md A) ∧ (∀ i y py spos, X.N[i]? = some y → X.env.scope.names.lookup y = some .local → md.ex i = false → swapsWith (.ListComp elt gs scope pos) (some (.Name y py)) spos.line X.env = pure true →
      PS X (.Assign [.Name y py] (.ListComp elt gs scope pos) spos) (tR g W md (evS T (.asg (.var i) A)))) := by
  obtain ⟨c1, c2, c3⟩ := h.calm hc
  have hmd : ∀ j a c d, md ≠ .exc j a c d := by
    rcases h.sui with ⟨_, z⟩ | ⟨z, _⟩
    · exact z
    · rw [he] at z; cases z
  have rX := hr _ _ _ _ h
  unfold cComp at hs
  split at hs
  · split at hs
    · rename_i hb
      have hin := fun s H C cl fp => h.inner he hc hb s H C cl fp
      have bo : BlkOk X.N X.env.scope scope (ownOf c scope) := by rw [h.N, h.sc]; exact blkOk_by hb
      split at hs
      · rename_i IT TG CD A' e1 e2 e3 e4
        split at hs
        · rename_i hsl
          cases hs
          have hsl : ∀ i ∈ tgSlots TG, i ∈ (ownOf c scope).map (·.2) := by
            rw [List.all_eq_true] at hsl
            intro i hi
            simpa using hsl i hi
          have i2 := (it_ok (tg := elt) h rX e1).2
          have G := fun s H C cl fp => (tg_ok (hin s H C cl fp) c1 e2).1
          have F := fun s H C cl fp => if_ok (hr _ _ _ _ (hin s H C cl fp)) e3
          have L := fun s H C cl fp => (hr _ _ _ _ (hin s H C cl fp) _ _ e4).pe
          exact ⟨se_comp c1 h.nd hmd (it_ok h rX e1).1 bo hsl G F L i2, fun i y py spos y1 y2 y3 y4 => sp_setc c1 h.nd hmd y1 y2 y3 y4 (it_ok h rX e1).1 bo hsl G F L i2⟩
        · cases hs
      · cases hs
    · cases hs
  · split at hs
    · rename_i hb
      have hin := fun s H C cl fp => h.inner he hc hb s H C cl fp
      have bo : BlkOk X.N X.env.scope scope (ownOf c scope) := by rw [h.N, h.sc]; exact blkOk_by hb
      split at hs
      · rename_i IT TG CD A' e1 e2 e3 e4
        split at hs
        · rename_i IT1 TG1 CD1 e5 e6 e7
          split at hs
          · rename_i hsl
            cases hs
            rw [Bool.and_eq_true, List.all_eq_true, List.all_eq_true] at hsl
            have hs0 : ∀ i ∈ tgSlots TG, i ∈ (ownOf c scope).map (·.2) := fun i hi => by simpa using hsl.1 i hi
            have hs1 : ∀ i ∈ tgSlots TG1, i ∈ (ownOf c scope).map (·.2) := fun i hi => by simpa using hsl.2 i hi
            have i2 := (it_ok (tg := elt) h rX e1).2
            have G := fun s H C cl fp => (tg_ok (hin s H C cl fp) c1 e2).1
            have F := fun s H C cl fp => if_ok (hr _ _ _ _ (hin s H C cl fp)) e3
            have L := fun s H C cl fp => (hr _ _ _ _ (hin s H C cl fp) _ _ e4).pe
            have J := fun tg s H C cl fp => (it_ok (tg := tg) (hin s H C cl fp) (hr _ _ _ _ (hin s H C cl fp)) e5).1
            have j2 := (it_ok (tg := elt) (hin X.s_0 X.H_0 0 [] []) (hr _ _ _ _ (hin X.s_0 X.H_0 0 [] [])) e5).2
            have G1 := fun s H C cl fp => (tg_ok (hin s H C cl fp) c1 e6).1
            have F1 := fun s H C cl fp => if_ok (hr _ _ _ _ (hin s H C cl fp)) e7
            exact ⟨se_comp2 c1 h.nd hmd (it_ok h rX e1).1 bo hs1 hs0 (fun i hi => hi) G F (J _) G1 F1 L i2 j2, fun i y py spos y1 y2 y3 y4 => sp_setc2 c1 h.nd hmd y1 y2 y3 y4 (it_ok h rX e1).1 bo hs1 hs0 (fun i hi => hi) G F (J _) G1 F1 L i2 j2⟩
          · cases hs
        · cases hs
      · cases hs
    · cases hs
  · cases hs
/-- THE COMPILER IS SOUND for expressions -/
theorem compE_ok : ∀ (n : Nat) (X : Cx) (W : WX) (md : Md) (c : Cfg), XOk X g T W md c k → RecOk (compE n c) X g T W md
  | 0, X, W, md, c, h, e, A, hs => by simp only [compE] at hs; cases hs
  | n + 1, X, W, md, c, h, e, A, hs => by
    have hr : RecOk (compE n c) X g T W md := compE_ok n X W md c h
    simp only [compE] at hs
    split at hs
    · exact const_ok h.K hs
    · exact name_ok h hs
    · split at hs
      · rename_i A' B' h1 h2
        cases hs
        split
        · rename_i hob
          exact .of h.K (se_obin (h.obj hob) h.nodash (hr _ _ h1).pe (hr _ _ h2).pe) (fun _ => rfl) fun _ _ _ z => by cases z
        exact .of h.K (se_bin h.K (hr _ _ h1).pe (hr _ _ h2).pe) (fun _ => rfl) fun _ _ _ z => by cases z
      · cases hs
    · split at hs
      · obtain ⟨A', h1, rfl⟩ := Option.map_eq_some_iff.mp hs
        split
        · rename_i hob
          exact .of h.K (se_oneg (h.obj hob) (hr _ _ h1).pe) (fun _ => rfl) fun _ _ _ z => by cases z
        exact .of h.K (se_neg (hr _ _ h1).pe) (fun _ => rfl) fun _ _ _ z => by cases z
      · obtain ⟨A', h1, rfl⟩ := Option.map_eq_some_iff.mp hs
        exact ⟨se_not h.K (hr _ _ h1).pe, st_not (hr _ _ h1).pt, fun _ _ _ z => by cases z⟩
      · cases hs
    · exact cmp_okE h hr hs
    · exact bool_ok h.K hr hs
    · split at hs
      · rename_i C' A' B' h1 h2 h3
        cases hs
        exact ⟨se_ite (hr _ _ h1).pt (hr _ _ h2).pe (hr _ _ h3).pe, st_ite (hr _ _ h1).pt (hr _ _ h2).pt (hr _ _ h3).pt, fun _ _ _ z => by cases z⟩
      · cases hs
    · obtain ⟨As, h1, rfl⟩ := Option.map_eq_some_iff.mp hs
      exact .of h.K (se_tup (es_ok hr h1).2.1) (fun _ => rfl) fun _ _ _ z => by cases z
    · obtain ⟨As, h1, rfl⟩ := Option.map_eq_some_iff.mp hs
      exact .of h.K (se_lst (es_ok hr h1).2.1) (fun _ => rfl) fun _ _ _ z => by cases z
    · exact sub_ok h hr hs
    · exact attr_ok h hr hs
    · split at hs
      · rename_i hk
        have e0 := List.isEmpty_iff.mp hk
        subst e0
        exact call_ok h hr hs
      · cases hs
    · exact join_ok h hr hs
    · split at hs
      · rename_i hk
        simp only [Bool.and_eq_true, Bool.not_eq_true'] at hk
        exact .of h.K (comp_ok h hk.2 hk.1 (fun X W md c hx => compE_ok n X W md c hx) hs).1 (fun _ => rfl) fun _ _ _ z => by cases z
      · cases hs
    · cases hs
end
end Mch

/-! ## The compiler: statements -/
namespace Mch
open PySem PySem.Spec PyProof.Rows L2
/-! ### the compiler -/
def cAt (c : Cfg) (rec : PySem.Expr → Option E) : Nat → PySem.Expr → Option E
  | 0, _ => none
  | n + 1, e => match e with
    | .Name x _ => (match varOf c x with
      | some i => if decide (c.sc.names.lookup x = some .local) || (decide (c.sc.names.lookup x = some .cell) && c.fn x) then some (.var i) else none
      | none => none)
    | .Tuple ts _ _ => if c.calm && ts.all plain then (mapO (cAt c rec n) ts).map .tup else none
    | .Subscript o i _ => if notSlice i then (match rec o, rec i with
      | some O, some B => some (.idx O B)
      | _, _ => none) else none
    | _ => none
def isNameE : PySem.Expr → Bool
  | .Name _ _ => true
  | _ => false
def locSlot (c : Cfg) (x : Str) : Option Nat := if decide (c.sc.names.lookup x = some .local) then varOf c x else none
/-- a comprehension stored: true, if it comes within its block -/
def cAsgC (c : Cfg) (recC : Cfg → PySem.Expr → Option E) (elt : PySem.Expr) (gs : List Comprehension) (scope : Scope) (p : Pos) : PySem.Expr → Option S
  | .Name y py => (match cComp c recC elt scope gs with
    | some A => if swpB c.sc scope y py p then (locSlot c y).map fun i => .asg (.var i) A else (cAt c (recC c) 9 (.Name y py)).map fun TT => .asg TT A
    | none => none)
  | _ => none
def cPar (c : Cfg) (rec : PySem.Expr → Option E) (names : List Str) : List PySem.Expr → List PySem.Expr → Option S
  | [.Name x _, .Name y _], [a, b] => if names = [x, y] then (match locSlot c x, locSlot c y, cEs rec [a, b] with
    | some i, some j, some [A, B] => if i = j then none else some (.asg (.tup [.var i, .var j]) (.tup [A, B]))
    | _, _, _ => none) else none
  | [.Name x _, .Name y _, .Name z _], [a, b, d] => if names = [x, y, z] then (match locSlot c x, locSlot c y, locSlot c z, cEs rec [a, b, d] with
    | some i, some j, some l, some [A, B, D] => if i = j ∨ i = l ∨ j = l then none else some (.asg (.tup [.var i, .var j, .var l]) (.tup [A, B, D]))
    | _, _, _, _ => none) else none
  | _, _ => none
def cAsg1 (c : Cfg) (rec : PySem.Expr → Option E) (t e : PySem.Expr) : Option S := if plain t && notComp e then (match rec e, cAt c rec 9 t with
    | some A, some TT => some (.asg TT A)
    | _, _ => none) else none
def tupOf : PySem.Expr → Option (List PySem.Expr × Nat × Pos)
  | .Tuple ts k p => some (ts, k, p)
  | _ => none
def lcOf : PySem.Expr → Option (PySem.Expr × List Comprehension × Scope × Pos)
  | .ListComp elt gs scope p => some (elt, gs, scope, p)
  | _ => none
def cAsg (c : Cfg) (recC : Cfg → PySem.Expr → Option E) (t e : PySem.Expr) : Option S := match lcOf e with
  | some (elt, gs, scope, p) => if c.calm && !c.exc then cAsgC c recC elt gs scope p t else none
  | none => match tupOf t, tupOf e with
    | some (ts, _, _), some (vs, _, _) => (match swK c.sc ts vs with
      | some none => cAsg1 c (recC c) t e
      | some (some names) => if c.calm then cPar c (recC c) names ts vs else none
      | none => none)
    | _, _ => if notSeq t || notSeq e then cAsg1 c (recC c) t e else none
def exCls (c : Cfg) (x : Str) : Option (Nat × ClsM) := if isGl c x then (match c.cls.lookup x with
  | some j => (match c.P.clss[j]? with
    | some C => if C.exc then some (j, C) else none
    | none => none)
  | none => none) else none
def cRaise (c : Cfg) (rec : PySem.Expr → Option E) : PySem.Expr → Option S
  | .Call (.Name x _) [e] kw _ => if kw.isEmpty then (match exCls c x with
    | some (j, C) => (match C.fields with
      | [] => (match e with
        | .Constant (.str m) _ _ => some (.raise j [.str m])
        | _ => none)
      | [_] => if plain e then (rec e).map fun A => .raise j [A] else none
      | _ => none)
    | none => none) else none
  | _ => none
/-- self.f = e within an __init__ -/
def cSetf (c : Cfg) (rec : PySem.Expr → Option E) (e : PySem.Expr) : PySem.Expr → Option S
  | .Attribute (.Name n _) f _ => if c.stm && decide (c.xs = some 0) && (!c.exc && (notComp e && ((slotOf c n == some 0) && (c.P.clss.all fun C => !(C.fields.contains f) || C.init.isSome)))) then (rec e).map fun A => .setf f A else none
  | _ => none
def isAttr : PySem.Expr → Bool
  | .Attribute _ _ _ => true
  | _ => false
def Cfg.suite (c : Cfg) (ni : Option Nat) : Cfg := { c with calm := false, stm := false, exc := ni.isSome, xs := ni }
/-- the slot of a clause's name -/
def cNm (c : Cfg) : Option Str → Option (Option Nat)
  | none => some none
  | some n => (locSlot c n).map some
def cHd (c : Cfg) (rec : Cfg → Stmt → Option S) : ExceptHandler → Option (Nat × Option Nat × List S)
  | .ExceptHandler (some (.Name x _)) n (b :: su) _ => (match exCls c x, cNm c n with
    | some (j, _), some ni => (match mapO (rec (c.suite ni)) (b :: su) with
      | some Hb => some (j, ni, Hb)
      | none => none)
    | _, _ => none)
  | _ => none
def cTry (c : Cfg) (rec : Cfg → Stmt → Option S) (b : List Stmt) : List ExceptHandler → Option S
  | [h] => (match mapO (rec c) b, cHd c rec h with
    | some B, some (j, ni, Hb) => some (.try1 B j ni Hb)
    | _, _ => none)
  | [h, h'] => (match mapO (rec c) b, cHd c rec h, cHd c rec h' with
    | some B, some (j, ni, Hb), some (j', ni', Hb') => some (.try2 B j ni Hb j' ni' Hb')
    | _, _, _ => none)
  | _ => none
def compS : Nat → Cfg → Stmt → Option S
  | 0, _, _ => none
  | n + 1, c, s => match s with
    | .Pass _ => some .pass
    | .Break _ => some .brk
    | .Continue _ => some .cnt
    | .Return none _ => some .retN
    | .Return (some e) _ => (compE 40 c e).map .ret
    | .Expr e _ => if notComp e then (compE 40 c e).map .expr else none
    | .If t a b _ => (match compE 40 c t, mapO (compS n c) a, mapO (compS n c) b with
      | some C, some A, some B => some (.ite C A B)
      | _, _, _ => none)
    | .While t b o _ => if c.stm && o.isEmpty then (match compE 40 c t, mapO (compS n c) b with
      | some C, some B => some (.while C B)
      | _, _ => none) else none
    | .For tg it b o _ => if c.stm && (c.calm && o.isEmpty) then (match cIt c (compE 40 c) it, cTg c 9 tg, mapO (compS n c) b with
      | some J, some TG, some B => some (.for TG J B)
      | _, _, _ => none) else none
    | .Assign ts e _ => (match ts with
      | [t] => if isAttr t then cSetf c (compE 40 c) e t else cAsg c (compE 40) t e
      | _ => none)
    | .Raise x y _ => (match x, y with
      | some x, none => if c.calm then cRaise c (compE 40 c) x else none
      | _, _ => none)
    | .Try b hs o f _ => if c.stm && (c.calm && (!c.exc && (c.xs.isNone && (o.isEmpty && f.isEmpty)))) then cTry c (compS n) b hs else none
    | _ => none
/-! ### it is sound -/
structure XSt (X : Cx) (c : Cfg) : Prop where
  stm : c.stm = true → PassesOwn (model X.prog X.w) X.A X.env X.xe ∧ X.stack = X.env :: X.outer ∧ X.env.frame = some X.env.locals
section
variable {X : Cx} {g : Glob} {T : Tab} {W : WX} {md : Md} {c : Cfg} {k : Nat} {e a b t : PySem.Expr} {A B : E} {pos : Pos} {rec : PySem.Expr → Option E} {st : S}
theorem locSlot_ok (h : XOk X g T W md c k) {x : Str} {i : Nat} (hs : locSlot c x = some i) : X.N[i]? = some x ∧ X.env.scope.names.lookup x = some .local ∧ md.ex i = false := by
  unfold locSlot at hs
  split at hs
  · rename_i hl
    obtain ⟨h1, h2⟩ := h.var hs
    rw [h.sc]
    exact ⟨(h.slot h1).1, by simpa using hl, h2⟩
  · cases hs
theorem at_ok (h : XOk X g T W md c k) (hr : RecOk rec X g T W md) : ∀ {n : Nat} {e : PySem.Expr} {A : E}, cAt c rec n e = some A → PG X e (gA g T md A)
  | 0, e, A, hs => by simp only [cAt] at hs; cases hs
  | n + 1, e, A, hs => by
    simp only [cAt] at hs
    split at hs
    · split at hs
      · rename_i i hi
        split at hs
        · rename_i hl
          cases hs
          obtain ⟨h1, h2⟩ := h.var hi
          obtain ⟨h3, h4, h5, h6⟩ := h.slot h1
          obtain ⟨l1, l2⟩ := loc_ok h hl
          exact ga_var h.nd h3 l1 l2 h2
        · cases hs
      · cases hs
    · split at hs
      · rename_i ts j p hp
        rw [Bool.and_eq_true] at hp
        obtain ⟨As, h1, rfl⟩ := Option.map_eq_some_iff.mp hs
        have q : ∀ {ts : List PySem.Expr} {As : List E}, ts.all plain = true → mapO (cAt c rec n) ts = some As → PGs X ts (gAs g T md As) ∧ ts.length = As.length := by
          intro ts
          induction ts with
          | nil =>
            intro As _ hm
            simp only [mapO, Option.some.injEq] at hm
            subst hm
            exact ⟨gas_nil, rfl⟩
          | cons t ts ih =>
            intro As hp hm
            rw [List.all_cons, Bool.and_eq_true] at hp
            simp only [mapO] at hm
            split at hm
            · rename_i A As' e1 e2
              cases hm
              obtain ⟨i1, i2⟩ := ih hp.2 e2
              exact ⟨gas_cons hp.1 (at_ok h hr e1) i1, by simp [i2]⟩
            · cases hm
        obtain ⟨q1, q2⟩ := q hp.2 h1
        exact ga_tup (h.calm hp.1).1 h.K hp.2 q2 q1
      · cases hs
    · split at hs
      · rename_i hn
        split at hs
        · rename_i O B' h1 h2
          cases hs
          exact ga_idx hn (hr _ _ h1).pe (hr _ _ h2).pe
        · cases hs
      · cases hs
    · cases hs
theorem sp_asgG {TT : E} (hs : swapsWith e (some t) pos.line X.env = pure false) (hp : plain t = true) (hw : swappedStores [t] e X.env = pure none) (he : PE X e (tE g T W md A)) (hg : PG X t (gA g T md TT)) : PS X (.Assign [t] e pos) (tR g W md (evS T (.asg TT A))) := by
  refine ⟨fun pins s σ H D I h => (ps_asg he hg hs hw (assign1 hp)).run pins s σ H D I ?_⟩
  obtain ⟨φ, G, μ, σm, sb, r, st, h⟩ := h
  simp only [evS] at h
  refine ⟨φ, G, μ, σm, sb, r, st, (h.stm st).imp fun v μ1 φ1 G1 H1 e1 r1 k w hw => ⟨φ1, G1, μ1, v, σm, e1.sub, r1, hw, st.ext e1, ?_⟩⟩
  cases e0 : asgT T TT v σm μ1 with
  | ok σ1 μ2 => rw [e0] at k; exact k
  | exc x' μ2 => rw [e0] at k; exact k.elim
  | no => rw [e0] at k; exact k.elim
theorem asg1_ok (h : XOk X g T W md c k) (hr : RecOk rec X g T W md) (hw : swappedStores [t] e X.env = pure none) (hs : cAsg1 c rec t e = some st) : PS X (.Assign [t] e pos) (tR g W md (evS T st)) := by
  unfold cAsg1 at hs
  split at hs
  · rename_i hp
    rw [Bool.and_eq_true] at hp
    split at hs
    · rename_i A TT h1 h2
      cases hs
      exact sp_asgG (swaps_no hp.2) hp.1 hw (hr _ _ h1).pe (at_ok h hr h2)
    · cases hs
  · cases hs
theorem bk_ok (h : XOk X g T W md c k) : X.env.blockKind = .function := by
  unfold Env.blockKind
  rw [h.sc, h.bk]
  rfl
theorem par_ok (h : XOk X g T W md c k) (hc : c.calm = true) (hr : RecOk rec X g T W md) {names : List Str} {ts vs : List PySem.Expr} {kt k2 : Nat} {pt pt2 : Pos} (hw : swappedStores [.Tuple ts kt pt] (.Tuple vs k2 pt2) X.env = pure (some names)) (hs : cPar c rec names ts vs = some st) :
    PS X (.Assign [.Tuple ts kt pt] (.Tuple vs k2 pt2) pos) (tR g W md (evS T st)) := by
  obtain ⟨c1, c2, c3⟩ := h.calm hc
  unfold cPar at hs
  split at hs
  · split at hs
    · rename_i hn
      subst hn
      split at hs
      · rename_i i j A B h1 h2 h3
        obtain ⟨q1, q2, q3⟩ := es_ok hr h3
        obtain ⟨a1, a2, a3⟩ := locSlot_ok h h1
        obtain ⟨b1, b2, b3⟩ := locSlot_ok h h2
        split at hs
        · cases hs
        · rename_i hij
          cases hs
          exact sp_par2 c1 h.nd a1 b1 hij a3 b3 a2 b2 q2 hw
      · cases hs
    · cases hs
  · split at hs
    · rename_i hn
      subst hn
      split at hs
      · rename_i i j l A B D h1 h2 h3 h4
        obtain ⟨q1, q2, q3⟩ := es_ok hr h4
        obtain ⟨a1, a2, a3⟩ := locSlot_ok h h1
        obtain ⟨b1, b2, b3⟩ := locSlot_ok h h2
        obtain ⟨d1, d2, d3⟩ := locSlot_ok h h3
        split at hs
        · cases hs
        · rename_i hij
          simp only [not_or] at hij
          cases hs
          exact sp_par3 c1 h.nd a1 b1 d1 hij.1 hij.2.1 hij.2.2 a3 b3 d3 a2 b2 d2 q2 hw
      · cases hs
    · cases hs
  · cases hs
theorem asg_ok {recC : Cfg → PySem.Expr → Option E} (h : XOk X g T W md c k) (hrC : ∀ X W md c, XOk X g T W md c k → RecOk (recC c) X g T W md) (hs : cAsg c recC t e = some st) : PS X (.Assign [t] e pos) (tR g W md (evS T st)) := by
  have hr := hrC _ _ _ _ h
  unfold cAsg at hs
  split at hs
  · rename_i elt gs scope p hl
    have he : e = .ListComp elt gs scope p := by
      unfold lcOf at hl
      split at hl
      · cases hl; rfl
      · cases hl
    subst he
    split at hs
    · rename_i hk
      simp only [Bool.and_eq_true, Bool.not_eq_true'] at hk
      unfold cAsgC at hs
      split at hs
      · rename_i y py
        split at hs
        · rename_i A h2
          split at hs
          · rename_i hsw
            obtain ⟨i, h1, rfl⟩ := Option.map_eq_some_iff.mp hs
            obtain ⟨a1, a2, a3⟩ := locSlot_ok h h1
            refine (comp_ok h hk.2 hk.1 hrC h2).2 i y py pos a1 a2 a3 ?_
            rw [swpB_ok (bk_ok h), h.sc, hsw]
          · rename_i hsw
            obtain ⟨TT, h1, rfl⟩ := Option.map_eq_some_iff.mp hs
            refine sp_asgG ?_ rfl (sw_none (.inl rfl)) (comp_ok h hk.2 hk.1 hrC h2).1 (at_ok h hr h1)
            rw [swpB_ok (bk_ok h), h.sc]
            simp only [Bool.not_eq_true] at hsw
            rw [hsw]
        · cases hs
      · cases hs
    · cases hs
  · split at hs
    · rename_i ts k1 p1 vs k2 p2 ht he'
      have e1 : t = .Tuple ts k1 p1 := by
        unfold tupOf at ht
        split at ht
        · cases ht; rfl
        · cases ht
      have e2 : e = .Tuple vs k2 p2 := by
        unfold tupOf at he'
        split at he'
        · cases he'; rfl
        · cases he'
      subst e1 e2
      split at hs
      · rename_i hw
        exact asg1_ok h hr (swK_ok h.sc (bk_ok h) hw) hs
      · rename_i names hw
        split at hs
        · rename_i hc
          exact par_ok h hc hr (swK_ok h.sc (bk_ok h) hw) hs
        · cases hs
      · cases hs
    · split at hs
      · rename_i hn
        rw [Bool.or_eq_true] at hn
        exact asg1_ok h hr (sw_none hn) hs
      · cases hs
theorem exCls_ok (h : XOk X g T W md c k) {x : Str} {j : Nat} {C : ClsM} (hs : exCls c x = some (j, C)) : ∃ Ca, ClsAt X g x j Ca ∧ g.P.clss[j]? = some C ∧ C.exc = true ∧ Gl X x ∧ X.mg x = some (.ref Ca) ∧ (x == ("__debug__" : Str)) = false := by
  unfold exCls at hs
  split at hs
  · rename_i hg
    obtain ⟨g1, g2⟩ := h.gl hg
    split at hs
    · rename_i j' hj
      split at hs
      · rename_i C' hC
        split at hs
        · rename_i he
          cases hs
          obtain ⟨Ca, h1, h2⟩ := h.cls x j hj
          rw [h.cP] at hC
          exact ⟨Ca, ⟨⟨g1, g2, .inl h2⟩, h1, C, hC, he⟩, hC, he, g1, h2, g2⟩
        · cases hs
      · cases hs
    · cases hs
  · cases hs
theorem raise_ok (h : XOk X g T W md c k) (hc : c.calm = true) (hr : RecOk rec X g T W md) (hs : cRaise c rec e = some st) : PS X (.Raise (some e) none pos) (tR g W md (evS T st)) := by
  obtain ⟨c1, c2, c3⟩ := h.calm hc
  unfold cRaise at hs
  split at hs
  · split at hs
    · rename_i hk
      have e0 := List.isEmpty_iff.mp hk
      subst e0
      split at hs
      · rename_i j C hx
        obtain ⟨Ca, q1, q2, q3, q4, q5, q6⟩ := exCls_ok h hx
        split at hs
        · rename_i hf
          split at hs
          · cases hs
            exact sp_raise0 c1 c2 h.exc h.TP h.K q1.ca q2 q3 hf q4 q5 q6
          · cases hs
        · rename_i f hf
          split at hs
          · rename_i hp
            obtain ⟨A', h1, rfl⟩ := Option.map_eq_some_iff.mp hs
            exact sp_raise1 c1 c2 (h.xfs j Ca C f q1.ca q2 q3 hf) h.TP c3 q1.ca q4 q5 q6 hp (hr _ _ h1).pe
          · cases hs
        · cases hs
      · cases hs
    · cases hs
  · cases hs
theorem setf_ok (h : XOk X g T W md c k) (hr : RecOk rec X g T W md) (hs : cSetf c rec e t = some st) : PS X (.Assign [t] e pos) (tR g W md (evS T st)) := by
  unfold cSetf at hs
  split at hs
  · rename_i n p f pos'
    split at hs
    · rename_i hb
      simp only [Bool.and_eq_true, decide_eq_true_eq, Bool.not_eq_true', List.all_eq_true, Bool.or_eq_true, List.contains_eq_mem] at hb
      obtain ⟨⟨b0, b1⟩, b2, b3, b4, b5⟩ := hb
      obtain ⟨A, h1, rfl⟩ := Option.map_eq_some_iff.mp hs
      have hsl : slotOf c n = some 0 := by simpa using b4
      obtain ⟨q1, q2, q3, q4⟩ := h.slot hsl
      have hmd : ∃ x, md = .ini x ∨ md = .hid0 ∨ ∃ a cl d, md = .exc 0 a cl d := by
        have := h.mdx 0
        rw [b1] at this
        cases md with
        | no => simp [Md.ex] at this
        | ini x => exact ⟨x, .inl rfl⟩
        | hid0 => exact ⟨0, .inr (.inl rfl)⟩
        | exc i a cl d =>
          have e0 : i = 0 := by have z : 0 = i := by simpa [Md.ex] using this
                                exact z.symm
          subst e0
          exact ⟨0, .inr (.inr ⟨a, cl, d, rfl⟩)⟩
      obtain ⟨x, rfl | rfl | ⟨a, cl, d, rfl⟩⟩ := hmd
      · refine sp_setf h.TP h.K h.fld h.fnd (fun j Cl hC hf => ?_) q1 q2 q3 q4 b3 (hr _ _ h1).pe
        rw [← h.cP] at hC
        rcases b5 Cl (List.mem_of_getElem? hC) with z | z
        · exact absurd hf (by simpa using z)
        · exact z
      · exact absurd rfl (h.hid b0)
      · rcases h.sui with ⟨_, z⟩ | ⟨z, _⟩
        · exact absurd rfl (z 0 a cl d)
        · rw [b2] at z; cases z
    · cases hs
  · cases hs
/-- statements' soundness -/
def SRec (rec : Cfg → Stmt → Option S) (g : Glob) (T : Tab) (k : Nat) : Prop := ∀ X W md c s S, XOk X g T W md c k → XSt X c → rec c s = some S → PS X s (tR g W md (evS T S))
theorem body_ok {rec : Cfg → Stmt → Option S} (hr : SRec rec g T k) (h : XOk X g T W md c k) (hx : XSt X c) : ∀ {ss : List Stmt} {B : List S}, mapO (rec c) ss = some B → PSs X ss (tR g W md (evB T B))
  | [], B, hs => by
    simp only [mapO, Option.some.injEq] at hs
    subst hs
    exact ss_nil
  | s :: ss, B, hs => by
    simp only [mapO] at hs
    split at hs
    · rename_i S B' h1 h2
      cases hs
      exact ss_cons (hr X W md c s S h hx h1) (body_ok hr h hx h2)
    · cases hs
theorem md_no (h : XOk X g T W md c k) (hx : c.xs = none) : md = .no := by
  have q : ∀ i, md.ex i = false := fun i => by rw [h.mdx, hx]; rfl
  cases md with
  | no => rfl
  | ini x => exact absurd (q 0) (by simp [Md.ex])
  | hid0 => exact absurd (q 0) (by simp [Md.ex])
  | exc i a cl d => exact absurd (q i) (by simp [Md.ex])
theorem XOk.tr (h : XOk X g T W md c k) (W' : WX) (pn : List (Addr × Obj)) (xe : Value → Shared → Prop) (tk : Takes (X.tr pn xe) W') (hn : c.exc = false) : XOk (X.tr pn xe) g T W' md c k :=
  ⟨h.N, h.nd, h.sc, h.bk, h.fn, h.K, h.TP, h.cP, h.un, h.kit, h.exc, h.fld, fun hc => let ⟨c1, _, c3⟩ := h.calm hc; ⟨c1, tk, c3⟩, fun z => (let o := h.obj z; ⟨o.K, o.TP, o.o, o.kit, o.met, o.hr2, tk⟩), h.nodash, h.mks, h.xfs, h.ics, h.dcs, h.hid, h.fnd, h.funs, h.fadr, h.cls, h.blt, h.mdx, .inl ⟨hn, by
    rcases h.sui with ⟨_, z⟩ | ⟨z, _⟩
    · exact z
    · rw [hn] at z; cases z⟩⟩
theorem XOk.suite (h : XOk X g T W md c k) {ni : Option Nat} (a : Addr) (oe : Obj) (cl : Value) (d : Option Addr) (pn : List (Addr × Obj)) (hz : Zc cl d oe) (hv : ∃ vs, oe.data = .fields vs) : XOk (X.suite a ((a, oe) :: pn)) g T W0 (sMd ni a cl d) (c.suite ni) k := by
  refine ⟨h.N, h.nd, h.sc, h.bk, h.fn, h.K, h.TP, h.cP, h.un, h.kit, h.exc, h.fld, (fun z => by cases z), (fun z => by unfold Cfg.obj at z; rw [show (c.suite ni).calm = false from rfl, Bool.and_false] at z; cases z), h.nodash, h.mks, h.xfs, h.ics, h.dcs, (fun z => by cases z), h.fnd, h.funs, h.fadr, h.cls, h.blt, fun i => ?_, ?_⟩
  · cases ni with
    | none => rfl
    | some j =>
      show (i == j) = decide (some j = some i)
      by_cases e : i = j
      · subst e; simp
      · have e' : j ≠ i := fun (z : j = i) => e z.symm
        simp [e, e']
  · cases ni with
    | none => exact .inl ⟨rfl, fun _ _ _ _ z => by cases z⟩
    | some j => exact .inr ⟨rfl, rfl, rfl, j, a, cl, d, X, oe, pn, rfl, rfl, hz, hv⟩
theorem nm_ok (h : XOk X g T W md c k) {n : Option Str} {ni : Option Nat} (hs : cNm c n = some ni) : NameAt X n ni := by
  cases n with
  | none =>
    simp only [cNm, Option.some.injEq] at hs
    subst hs
    trivial
  | some n =>
    obtain ⟨i, h1, rfl⟩ := Option.map_eq_some_iff.mp hs
    obtain ⟨q1, q2, _⟩ := locSlot_ok h h1
    exact ⟨q1, q2⟩
theorem hd_ok {rec : Cfg → Stmt → Option S} (hr : SRec rec g T k) (h : XOk X g T W md c k) {hd : ExceptHandler} {j : Nat} {ni : Option Nat} {Hb : List S} (hs : cHd c rec hd = some (j, ni, Hb)) :
    ∃ x np n b su pos' C, hd = .ExceptHandler (some (.Name x np)) n (b :: su) pos' ∧ ClsAt X g x j C ∧ NameAt X n ni ∧
      ∀ (a : Addr) (oe : Obj) (cls : Value) (d : Option Addr) (pn : List (Addr × Obj)), Zc cls d oe → (∃ vs, oe.data = .fields vs) → PSs (X.suite a ((a, oe) :: pn)) (b :: su) (tR g W0 (sMd ni a cls d) (evB T Hb)) := by
  unfold cHd at hs
  split at hs
  · rename_i x np n b su pos'
    split at hs
    · rename_i j' C' ni' h1 h2
      split at hs
      · rename_i Hb' h3
        cases hs
        obtain ⟨Ca, q1, _⟩ := exCls_ok h h1
        exact ⟨x, np, n, b, su, pos', Ca, rfl, q1, nm_ok h h2, fun a oe cls d pn hz hv => body_ok hr (h.suite a oe cls d pn hz hv) ⟨fun z => by cases z⟩ h3⟩
      · cases hs
    · cases hs
  · cases hs
theorem try_ok {rec : Cfg → Stmt → Option S} (hr : SRec rec g T k) (h : XOk X g T W md c k) (hx : XSt X c) (hst : c.stm = true) (hc : c.calm = true) (hn : c.exc = false) (hxs : c.xs = none) {b : List Stmt} {hs : List ExceptHandler} (hh : cTry c rec b hs = some st) : PS X (.Try b hs [] [] pos) (tR g W md (evS T st)) := by
  obtain ⟨c1, c2, c3⟩ := h.calm hc
  obtain ⟨p1, p2, p3⟩ := hx.stm hst
  have e0 := md_no h hxs
  subst e0
  have hb : ∀ {B : List S}, mapO (rec c) b = some B → ∀ (W : WX) (pn : List (Addr × Obj)) (xe : Value → Shared → Prop), Takes (X.tr pn xe) W → PassesOwn (model X.prog X.w) X.A X.env xe → PSs (X.tr pn xe) b (tR g W .no (evB T B)) :=
    fun hB W pn xe tk po => body_ok hr (h.tr W pn xe tk hn) ⟨fun _ => ⟨po, p2, p3⟩⟩ hB
  unfold cTry at hh
  split at hh
  · split at hh
    · rename_i B j ni Hb h1 h2
      cases hh
      obtain ⟨x, np, n, b₀, su, pos', C, rfl, q1, q2, q3⟩ := hd_ok hr h h2
      exact sp_try1 p2 p3 h.nd c2 h.exc h.K h.TP q1 q2 (hb h1) q3
    · cases hh
  · split at hh
    · rename_i B j ni Hb j' ni' Hb' h1 h2 h3
      cases hh
      obtain ⟨x, np, n, b₀, su, pos', C, rfl, q1, q2, q3⟩ := hd_ok hr h h2
      obtain ⟨x', np', n', b₀', su', pos'', C', rfl, q1', q2', q3'⟩ := hd_ok hr h h3
      exact sp_try2 p2 p3 h.nd c2 h.exc h.K h.TP q1 q2 q1' q2' (hb h1) q3 q3'
    · cases hh
  · cases hh
/-- THE COMPILER IS SOUND for statements -/
theorem compS_ok : ∀ (n : Nat), SRec (compS n) g T k
  | 0, X, W, md, c, s, S', h, hx, hs => by simp only [compS] at hs; cases hs
  | n + 1, X, W, md, c, s, S', h, hx, hs => by
    have hr : SRec (compS n) g T k := compS_ok n
    have he : RecOk (compE 40 c) X g T W md := compE_ok 40 X W md c h
    simp only [compS] at hs
    split at hs
    · cases hs; exact sp_pass
    · cases hs; exact sp_brk
    · cases hs; exact sp_cnt
    · cases hs; exact sp_retN
    · obtain ⟨A, h1, rfl⟩ := Option.map_eq_some_iff.mp hs
      exact sp_ret (he _ _ h1).pe
    · split at hs
      · rename_i hn
        obtain ⟨A, h1, rfl⟩ := Option.map_eq_some_iff.mp hs
        exact sp_expr hn (he _ _ h1).pe
      · cases hs
    · split at hs
      · rename_i C A B h1 h2 h3
        cases hs
        exact sp_ite (he _ _ h1).pt (body_ok hr h hx h2) (body_ok hr h hx h3)
      · cases hs
    · split at hs
      · rename_i hk
        rw [Bool.and_eq_true] at hk
        have e0 := List.isEmpty_iff.mp hk.2
        subst e0
        split at hs
        · rename_i C B h1 h2
          cases hs
          exact sp_while (hx.stm hk.1).1 (he _ _ h1).pt (body_ok hr h hx h2)
        · cases hs
      · cases hs
    · split at hs
      · rename_i hk
        rw [Bool.and_eq_true, Bool.and_eq_true] at hk
        obtain ⟨k1, k2, k3⟩ := hk
        have e0 := List.isEmpty_iff.mp k3
        subst e0
        split at hs
        · rename_i J TG B h1 h2 h3
          cases hs
          obtain ⟨q1, q2⟩ := tg_ok h (h.calm k2).1 h2
          obtain ⟨i1, i2⟩ := it_ok h he h1
          exact sp_for (hx.stm k1).1 (h.calm k2).1 i2 q2 i1 q1 (body_ok hr h hx h3)
        · cases hs
      · cases hs
    · split at hs
      · split at hs
        · exact setf_ok h he hs
        · exact asg_ok h (fun X W md c hx => compE_ok 40 X W md c hx) hs
      · cases hs
    · split at hs
      · split at hs
        · rename_i hc
          exact raise_ok h hc he hs
        · cases hs
      · cases hs
    · split at hs
      · rename_i hk
        simp only [Bool.and_eq_true, Bool.not_eq_true', Option.isNone_iff_eq_none] at hk
        obtain ⟨k1, k2, k3, k4, k5, k6⟩ := hk
        have e1 := List.isEmpty_iff.mp k5
        have e2 := List.isEmpty_iff.mp k6
        subst e1 e2
        exact try_ok hr h hx k1 k2 k3 k4 hs
      · cases hs
    · cases hs
end
end Mch

/-! ## The defs of a text keep what the machine says -/
namespace Mch
open PySem PySem.Spec PyProof.Rows L2
/-- a def: where it stands, its parameters, its slots, its defaults as the machine has them -/
inductive FK where
  | fn | ini (c : Nat) | xin (c : Nat) (f B : Str)
  deriving DecidableEq
structure FS where
  d : He.DefD
  ps : List Str
  N : List Str
  kd : FK := .fn
  ob : Bool := false
/-- a text -/
structure Txt' where
  fs : List FS
  cls : List Str
  blts : List Str
  P : Prog
  ics : List (Str × Int) := []
  dcs : List Str := []
def dvM : He.Dv → Option MV
  | .non => some .non
  | .bl b => some (.bl b)
  | .int i => some (.int i)
  | .str s => some (.str s)
  | _ => none
def numb (l : List Str) (i : Nat) : List (Str × Nat) := match l with
  | [] => []
  | x :: r => (x, i) :: numb r (i + 1)
theorem numb_ok : ∀ {l : List Str} {i j : Nat} {x : Str}, (numb l i).lookup x = some j → ∃ k, j = i + k ∧ l[k]? = some x
  | [], i, j, x, h => by cases h
  | y :: r, i, j, x, h => by
    unfold numb at h
    rw [List.lookup_cons] at h
    split at h
    · rename_i e
      cases h
      exact ⟨0, rfl, by simp [eq_of_beq e]⟩
    · obtain ⟨k, h1, h2⟩ := numb_ok h
      exact ⟨k + 1, by omega, by simpa using h2⟩
/-- a name that stands for a def of the top; a method stands under none -/
def FS.nm (F : FS) : Str := match F.d.at_.2 with
  | none => F.d.at_.1
  | some _ => ""
def Txt'.glob (S : Txt') (K : PySem.W.Frag) : Glob := ⟨K, fun f => match S.fs[f]? with
  | some F => if F.d.at_.2.isNone then some (He.fAd K F.d.at_) else none
  | none => none, fun f => match S.fs[f]? with
  | some F => if F.kd = .fn then some (He.fAd K F.d.at_) else none
  | none => none, fun c => (S.cls[c]?).map (He.ga K), S.P⟩
def Txt'.cfg (S : Txt') (F : FS) : Cfg := { N := F.N, sc := F.d.scope, fns := S.fs.map FS.nm, cls := numb S.cls 0, blts := S.blts, P := S.P, ob := F.ob, ics := S.ics, dcs := S.dcs, xs := match F.kd with
  | .ini _ => some 0
  | _ => none }
/-! ### the facts of the head -/
def nmB : List String := ["NoneType", "bool", "int", "str", "tuple", "list"]
def tyB : List TyR := [.int, .bool, .str, .list, .tuple, .dict]
def insB (K : PySem.W.Frag) (C : Addr) : Bool := decide (PySem.W.findIn K (.ref C) "__class__" = some (some (.builtin "object.__class__"))) && (decide (PySem.W.specialIn K (.builtin "object.__class__") "__get__" = some (some (.builtin "getset_descriptor.__get__"))) &&
  (decide (PySem.W.takesIn K (.builtin "object.__class__") = some true) && decide (PySem.W.mroIn K C (.type "object") = some true)))
def upB (S : Txt') (K : PySem.W.Frag) (q : Value → Value → Option Bool) (C : Addr) (Cl : ClsM) (l : List Str) (j : Nat) : Bool := match l with
  | [] => true
  | y :: r => decide (q (.ref C) (.ref (He.ga K y)) = some (decide (j ∈ Cl.up))) && upB S K q C Cl r (j + 1)
def excB (S : Txt') (K : PySem.W.Frag) (C : Addr) (Cl : ClsM) (l : List Str) (j : Nat) : Bool := match l with
  | [] => true
  | y :: r => (match S.P.clss[j]? with
    | some Dl => if Dl.exc then decide (PySem.W.exmOne K (.ref C) (.ref (He.ga K y)) = some (decide (j ∈ Cl.up))) else true
    | none => true) && excB S K C Cl r (j + 1)
def opsO : List Operator := [.Add, .Sub, .Mult]
def methB (S : Txt') (K : PySem.W.Frag) (x : Str) (Cl : ClsM) (m : Str × Nat) : Bool := (He.Fa.meth x m.1).ok K && (!Cl.fields.contains m.1 && (match S.fs[m.2]? with
  | some F => decide (F.d.at_ = (x, some m.1)) && decide (F.kd = .fn)
  | none => false))
/-- a class of objects -/
def objB (S : Txt') (K : PySem.W.Frag) (x : Str) (Cl : ClsM) : Bool := (He.Fa.cls x).ok K && (PySem.W.selfFirst K (He.ga K x) && ((nmB.all fun n => decide (PySem.W.subIn K (.type n) (.ref (He.ga K x)) = some false)) &&
  ((opsO.all fun op => decide (PySem.W.findIn K (.ref (He.ga K x)) (PySem.dunderR op.info.2) = some none)) && (Cl.meths.all (methB S K x Cl) &&
  ((if (Cl.meths.lookup ("__ne__" : Str)).isNone then decide (PySem.W.findIn K (.ref (He.ga K x)) "__ne__" = some (some (.builtin "object.__ne__"))) else true) && (decide (PySem.W.mroIn K (He.ga K x) (.type "object") = some true) &&
  (decide (PySem.W.findIn K (.ref (He.ga K x)) "__format__" = some (some (.builtin "object.__format__"))) && upB S K (PySem.W.subIn K) (He.ga K x) Cl S.cls 0)))))))
def iniB (S : Txt') (K : PySem.W.Frag) (x : Str) (c : Nat) (Cl : ClsM) : Bool := match Cl.init with
  | some i => !Cl.exc && ((He.Fa.mkr x).ok K && ((match S.fs[i]? with
    | some F => decide (F.d.at_ = (x, some ("__init__" : Str))) && decide (F.kd = .ini c)
    | none => false) && (decide Cl.fields.Nodup && decide (Cl.fields.length < 1000))))
  | none => true
/-- a class of exceptions with a field -/
def xcB (S : Txt') (K : PySem.W.Frag) (x : Str) (c : Nat) (Cl : ClsM) : Bool := match Cl.fields with
  | [f] => if Cl.exc then oexB K (He.ga K x) && S.fs.any fun F => (match F.kd with
    | .xin c' f' B => decide (c' = c) && (decide (f' = f) && (decide (F.d.at_ = (x, some ("__init__" : Str))) && (decide (PySem.W.findIn K (.ref (He.ga K x)) "__init__" = some (some (.ref (He.fAd K F.d.at_)))) && (decide (PySem.W.typeIn K (.ref (He.fAd K F.d.at_)) = some (.type "function")) &&
      ((He.Fa.glo B).ok K && (PySem.W.readsIn K (He.ga K B) (.type "type") && (decide (PySem.W.specialIn K (.ref (He.ga K B)) "__getattribute__" = some (some (.builtin "type.__getattribute__"))) && (match PySem.W.findCls K (.ref (He.ga K B)) (.type "type") "__init__" with
        | some (.val v) => v == .builtin "ValueError.__init__"
        | _ => false))))))))
    | _ => false) else true
  | _ => true
def clsB (S : Txt') (K : PySem.W.Frag) (x : Str) (c : Nat) (Cl : ClsM) : Bool :=
  ((He.Fa.glo x).ok K && ((if Cl.exc then true else objB S K x Cl) && (iniB S K x c Cl && xcB S K x c Cl))) && ((nmB.all fun n => decide (PySem.W.kitOne K (.type n) (.ref (He.ga K x)) = some false)) &&
  ((if Cl.exc then xfB K (He.ga K x) && ((Cl.fields.all fun f => decide (PySem.W.findIn K (.ref (He.ga K x)) f = some none)) && ((PySem.W.keepIn K (.ref (He.ga K x)) && (decide (PySem.W.subIn K (.ref (He.ga K x)) (.type "BaseException") = some true) && decide (PySem.W.typeIn K (.ref (He.ga K x)) = some (.type "type")))) &&
      ((if Cl.fields = [] then PySem.W.excIn K (He.ga K x) He.veBase "ValueError.__new__" else true) && excB S K (He.ga K x) Cl S.cls 0)))
    else (tyB.all fun t => decide (PySem.W.kitOne K (.ref (He.ga K x)) (.type (tyNm t)) = some false)) && ((He.Fa.cls x).ok K && (insB K (He.ga K x) && upB S K (PySem.W.kitOne K) (He.ga K x) Cl S.cls 0))) &&
  (if Cl.init.isSome then (He.Fa.cls x).ok K && Cl.fields.all fun f => (He.Fa.noat x f).ok K else true)))
def clssB (S : Txt') (K : PySem.W.Frag) : Nat → List Str → List ClsM → Bool
  | _, [], [] => true
  | c, x :: xs, C :: Cs => clsB S K x c C && clssB S K (c + 1) xs Cs
  | _, _, _ => false
def ndB (P : Prog) : Bool := P.clss.all fun C => C.exc || (C.meths.lookup ("-" : Str)).isNone
def dcsB (K : PySem.W.Frag) : List Str → List (List (Int × Int)) → Bool
  | [], [] => true
  | x :: xs, D :: Ds => ((He.Fa.glo x).ok K && dcB K (He.ga K x) D) && dcsB K xs Ds
  | _, _ => false
def Txt'.ck (S : Txt') (K : PySem.W.Frag) : Bool := ((ndB S.P && ((S.ics.all fun p => (He.Fa.int p.1 p.2).ok K) && dcsB K S.dcs S.P.dcs)) && S.fs.all fun F => if F.d.at_.2.isNone then (He.Fa.glo F.d.at_.1).ok K && decide (F.kd = .fn) else true) && ((S.blts.all fun b => (He.Fa.free b).ok K) && clssB S K 0 S.cls S.P.clss)
section
variable {S : Txt'} {K : PySem.W.Frag} {base : Heap} {mg : Str → Option Value}
theorem clss_get : ∀ {c : Nat} {xs : List Str} {Cs : List ClsM}, clssB S K c xs Cs = true → ∀ {i : Nat} {C : ClsM}, Cs[i]? = some C → ∃ x, xs[i]? = some x ∧ clsB S K x (c + i) C = true
  | _, [], [], _, i, C, h => by simp at h
  | _, [], _ :: _, h, _, _, _ => by cases h
  | _, _ :: _, [], h, _, _, _ => by cases h
  | c, x :: xs, D :: Cs, h, i, C, hc => by
    obtain ⟨h1, h2⟩ := He.ba (show (clsB S K x c D && clssB S K (c + 1) xs Cs) = true from h)
    cases i with
    | zero =>
      simp at hc
      subst hc
      exact ⟨x, rfl, h1⟩
    | succ i =>
      obtain ⟨y, q1, q2⟩ := clss_get h2 (i := i) (C := C) (by simpa using hc)
      exact ⟨y, by simpa using q1, by rw [show c + (i + 1) = c + 1 + i by omega]; exact q2⟩
theorem up_get {q : Value → Value → Option Bool} {C : Addr} {Cl : ClsM} : ∀ {l : List Str} {j : Nat}, upB S K q C Cl l j = true → ∀ {i : Nat} {y : Str}, l[i]? = some y → q (.ref C) (.ref (He.ga K y)) = some (decide (j + i ∈ Cl.up))
  | [], j, _, i, y, h => by simp at h
  | z :: r, j, h, i, y, hy => by
    obtain ⟨h1, h2⟩ := He.ba (show (decide (q (.ref C) (.ref (He.ga K z)) = some (decide (j ∈ Cl.up))) && upB S K q C Cl r (j + 1)) = true from h)
    cases i with
    | zero =>
      simp at hy
      subst hy
      exact of_decide_eq_true h1
    | succ i =>
      have := up_get h2 (i := i) (y := y) (by simpa using hy)
      rw [this]
      congr 2
      rw [show j + 1 + i = j + (i + 1) by omega]
theorem exc_get {C : Addr} {Cl : ClsM} : ∀ {l : List Str} {j : Nat}, excB S K C Cl l j = true → ∀ {i : Nat} {y : Str} {Dl : ClsM}, l[i]? = some y → S.P.clss[j + i]? = some Dl → Dl.exc = true → PySem.W.exmOne K (.ref C) (.ref (He.ga K y)) = some (decide (j + i ∈ Cl.up))
  | [], j, _, i, y, _, h, _, _ => by simp at h
  | z :: r, j, h, i, y, Dl, hy, hD, he => by
    obtain ⟨h1, h2⟩ := He.ba (show ((match S.P.clss[j]? with
    | some Dl => if Dl.exc then decide (PySem.W.exmOne K (.ref C) (.ref (He.ga K z)) = some (decide (j ∈ Cl.up))) else true
    | none => true) && excB S K C Cl r (j + 1)) = true from h)
    cases i with
    | zero =>
      simp at hy
      subst hy
      rw [show j + 0 = j from rfl] at hD ⊢
      rw [hD] at h1
      simp only [he, if_true] at h1
      exact of_decide_eq_true h1
    | succ i =>
      have e : j + 1 + i = j + (i + 1) := by omega
      have := exc_get h2 (i := i) (y := y) (Dl := Dl) (by simpa using hy) (by rw [e]; exact hD) he
      rw [this, e]
/-- a class's facts -/
theorem cls_get (h : S.ck K = true) {c : Nat} {C : Addr} {Cl : ClsM} (hc : (S.glob K).cA c = some C) (hl : S.P.clss[c]? = some Cl) : ∃ x, S.cls[c]? = some x ∧ C = He.ga K x ∧ clsB S K x c Cl = true := by
  obtain ⟨_, h⟩ := He.ba h
  obtain ⟨_, h⟩ := He.ba h
  obtain ⟨x, h1, h2⟩ := clss_get h hl
  rw [Nat.zero_add] at h2
  have hc : (S.cls[c]?).map (He.ga K) = some C := hc
  rw [h1] at hc
  cases hc
  exact ⟨x, h1, rfl, h2⟩
theorem cls_len : ∀ {c : Nat} {xs : List Str} {Cs : List ClsM}, clssB S K c xs Cs = true → ∀ {i : Nat} {x : Str}, xs[i]? = some x → ∃ C, Cs[i]? = some C
  | _, [], [], _, i, x, h => by simp at h
  | _, [], _ :: _, h, _, _, _ => by cases h
  | _, _ :: _, [], h, _, _, _ => by cases h
  | c, x :: xs, D :: Cs, h, i, y, hc => by
    obtain ⟨h1, h2⟩ := He.ba (show (clsB S K x c D && clssB S K (c + 1) xs Cs) = true from h)
    cases i with
    | zero => exact ⟨D, rfl⟩
    | succ i =>
      obtain ⟨C, hC⟩ := cls_len h2 (i := i) (x := y) (by simpa using hc)
      exact ⟨C, by simpa using hC⟩
theorem cls_any (h : S.ck K = true) {c : Nat} {C : Addr} (hc : (S.glob K).cA c = some C) : ∃ Cl, S.P.clss[c]? = some Cl := by
  obtain ⟨_, h⟩ := He.ba h
  obtain ⟨_, h⟩ := He.ba h
  have hc : (S.cls[c]?).map (He.ga K) = some C := hc
  obtain ⟨x, h1, _⟩ := Option.map_eq_some_iff.mp hc
  exact cls_len h h1
theorem nm_mem {n : String} (h : n ∈ ["NoneType", "bool", "int", "str", "tuple", "list"]) : n ∈ nmB := h
theorem ty_mem {t : TyR} (h : ∀ c, t ≠ .cls c) : t ∈ tyB := by
  cases t with
  | cls c => exact absurd rfl (h c)
  | _ => simp [tyB]
theorem kit_ok (h : S.ck K = true) : KitG (S.glob K) where
  b2o := fun n hn c C hc => by
    obtain ⟨Cl, hl⟩ := cls_any h hc
    obtain ⟨x, _, rfl, h2⟩ := cls_get h hc hl
    obtain ⟨_, h2⟩ := He.ba h2
    obtain ⟨h3, _⟩ := He.ba h2
    exact of_decide_eq_true (List.all_eq_true.mp h3 n (nm_mem hn))
  o2b := fun t ht c C Cl hc hl he => by
    obtain ⟨x, _, rfl, h2⟩ := cls_get h hc hl
    obtain ⟨_, h2⟩ := He.ba h2
    obtain ⟨_, h2⟩ := He.ba h2
    obtain ⟨h2, _⟩ := He.ba h2
    rw [if_neg (by rw [he]; exact Bool.false_ne_true)] at h2
    obtain ⟨h3, _⟩ := He.ba h2
    exact of_decide_eq_true (List.all_eq_true.mp h3 t (ty_mem ht))
  ins := fun c C Cl hc hl he H a dx fs hH => by
    obtain ⟨x, _, rfl, h2⟩ := cls_get h hc hl
    obtain ⟨_, h2⟩ := He.ba h2
    obtain ⟨_, h2⟩ := He.ba h2
    obtain ⟨h2, _⟩ := He.ba h2
    rw [if_neg (by rw [he]; exact Bool.false_ne_true)] at h2
    obtain ⟨_, h2⟩ := He.ba h2
    obtain ⟨k1, h2⟩ := He.ba h2
    obtain ⟨k2, _⟩ := He.ba h2
    obtain ⟨i1, i2⟩ := He.ba k2
    obtain ⟨i2, i3⟩ := He.ba i2
    obtain ⟨i3, i4⟩ := He.ba i3
    exact .ins hH (He.cls_ok k1) (of_decide_eq_true i1) (of_decide_eq_true i2) (of_decide_eq_true i3) (of_decide_eq_true i4)
  o2o := fun c d C D Cl hc hd hl he => by
    obtain ⟨x, _, rfl, h2⟩ := cls_get h hc hl
    obtain ⟨_, h2⟩ := He.ba h2
    obtain ⟨_, h2⟩ := He.ba h2
    obtain ⟨h2, _⟩ := He.ba h2
    rw [if_neg (by rw [he]; exact Bool.false_ne_true)] at h2
    obtain ⟨_, h2⟩ := He.ba h2
    obtain ⟨_, h2⟩ := He.ba h2
    obtain ⟨_, k⟩ := He.ba h2
    have hd : (S.cls[d]?).map (He.ga K) = some D := hd
    obtain ⟨y, hy, rfl⟩ := Option.map_eq_some_iff.mp hd
    have := up_get k hy
    rw [Nat.zero_add] at this
    exact this
theorem excG_ok (h : S.ck K = true) : ExcG (S.glob K) where
  exm := fun c d C D Cl Dl hc hd hl hm he hf => by
    obtain ⟨x, _, rfl, h2⟩ := cls_get h hc hl
    obtain ⟨_, h2⟩ := He.ba h2
    obtain ⟨_, h2⟩ := He.ba h2
    obtain ⟨h2, _⟩ := He.ba h2
    rw [if_pos he] at h2
    obtain ⟨_, h2⟩ := He.ba h2
    obtain ⟨_, h2⟩ := He.ba h2
    obtain ⟨_, h2⟩ := He.ba h2
    obtain ⟨_, h2⟩ := He.ba h2
    have hd : (S.cls[d]?).map (He.ga K) = some D := hd
    obtain ⟨y, hy, rfl⟩ := Option.map_eq_some_iff.mp hd
    have := exc_get h2 (i := d) (y := y) (Dl := Dl) hy (by rw [Nat.zero_add]; exact hm) hf
    rw [Nat.zero_add] at this
    exact this
  fld := fun c C Cl hc hl he => by
    obtain ⟨x, _, rfl, h2⟩ := cls_get h hc hl
    obtain ⟨_, h2⟩ := He.ba h2
    obtain ⟨_, h2⟩ := He.ba h2
    obtain ⟨h2, _⟩ := He.ba h2
    rw [if_pos he] at h2
    obtain ⟨h3, h2⟩ := He.ba h2
    obtain ⟨h4, _⟩ := He.ba h2
    exact ⟨xfB_ok h3, fun f hf => of_decide_eq_true (List.all_eq_true.mp h4 f hf)⟩
  own := fun c C Cl hc hl he => by
    obtain ⟨x, _, rfl, h2⟩ := cls_get h hc hl
    obtain ⟨_, h2⟩ := He.ba h2
    obtain ⟨_, h2⟩ := He.ba h2
    obtain ⟨h2, _⟩ := He.ba h2
    rw [if_pos he] at h2
    obtain ⟨_, h2⟩ := He.ba h2
    obtain ⟨_, h2⟩ := He.ba h2
    obtain ⟨h5, _⟩ := He.ba h2
    obtain ⟨h6, h5⟩ := He.ba h5
    obtain ⟨h7, h8⟩ := He.ba h5
    exact ⟨h6, of_decide_eq_true h7, of_decide_eq_true h8⟩
  new := fun c C Cl hc hl he hf => by
    obtain ⟨x, _, rfl, h2⟩ := cls_get h hc hl
    obtain ⟨_, h2⟩ := He.ba h2
    obtain ⟨_, h2⟩ := He.ba h2
    obtain ⟨h2, _⟩ := He.ba h2
    rw [if_pos he] at h2
    obtain ⟨_, h2⟩ := He.ba h2
    obtain ⟨_, h2⟩ := He.ba h2
    obtain ⟨_, h2⟩ := He.ba h2
    obtain ⟨h3, _⟩ := He.ba h2
    rw [if_pos hf] at h3
    exact h3
theorem fld_ok (h : S.ck K = true) : ∀ d C Cl, (S.glob K).cA d = some C → S.P.clss[d]? = some Cl → Cl.init.isSome = true → L2.Cls K C ∧ ∀ f ∈ Cl.fields, NoAttr K C f := fun d C Cl hc hl hi => by
  obtain ⟨x, _, rfl, h2⟩ := cls_get h hc hl
  obtain ⟨_, h2⟩ := He.ba h2
  obtain ⟨_, h2⟩ := He.ba h2
  obtain ⟨_, h2⟩ := He.ba h2
  rw [if_pos hi] at h2
  obtain ⟨h3, h4⟩ := He.ba h2
  exact ⟨He.cls_ok h3, fun f hf => He.noat_ok (List.all_eq_true.mp h4 f hf)⟩
theorem clsn_ok (hin : K.In base) (hns : base.Ns mainGlobals mg) (h : S.ck K = true) : ∀ x j, (numb S.cls 0).lookup x = some j → ∃ C, (S.glob K).cA j = some C ∧ mg x = some (.ref C) := fun x j hj => by
  obtain ⟨i, h1, h2⟩ := numb_ok hj
  rw [Nat.zero_add] at h1
  subst h1
  have hc : (S.glob K).cA j = some (He.ga K x) := by
    show (S.cls[j]?).map _ = _
    rw [h2]
    rfl
  obtain ⟨Cl, hl⟩ := cls_any h hc
  obtain ⟨y, q1, q2, q3⟩ := cls_get h hc hl
  rw [h2] at q1
  cases q1
  exact ⟨_, hc, He.glo_ok hin hns (He.ba (He.ba q3).1).1⟩
theorem blt_ok (hin : K.In base) (hns : base.Ns mainGlobals mg) (h : S.ck K = true) : ∀ x, x ∈ S.blts → mg x = none := fun x hx => by
  obtain ⟨_, h⟩ := He.ba h
  obtain ⟨h, _⟩ := He.ba h
  exact He.free_ok hin hns (List.all_eq_true.mp h x hx)
theorem glo_of (hin : K.In base) (hns : base.Ns mainGlobals mg) (h : S.ck K = true) {f : Nat} {F : FS} (hf : S.fs[f]? = some F) (hg : F.d.at_.2 = none) : mg F.d.at_.1 = some (.ref (He.fAd K F.d.at_)) := by
  obtain ⟨h, _⟩ := He.ba h
  obtain ⟨_, h⟩ := He.ba h
  have := List.all_eq_true.mp h F (List.mem_of_getElem? hf)
  rw [hg] at this
  have := He.glo_ok hin hns (He.ba (show ((He.Fa.glo F.d.at_.1).ok K && decide (F.kd = .fn)) = true from this)).1
  rw [this]
  show _ = some (Value.ref (He.fAd K F.d.at_))
  unfold He.fAd
  rw [hg]
theorem kd_of (h : S.ck K = true) {f : Nat} {F : FS} (hf : S.fs[f]? = some F) (hg : F.d.at_.2 = none) : F.kd = .fn := by
  obtain ⟨h, _⟩ := He.ba h
  obtain ⟨_, h⟩ := He.ba h
  have := List.all_eq_true.mp h F (List.mem_of_getElem? hf)
  rw [hg] at this
  exact of_decide_eq_true (He.ba (show ((He.Fa.glo F.d.at_.1).ok K && decide (F.kd = .fn)) = true from this)).2
theorem lookup_mem {α : Type} {m : Str} {v : α} : ∀ {l : List (Str × α)}, l.lookup m = some v → (m, v) ∈ l
  | [], h => by cases h
  | (n, w) :: r, h => by
    rw [List.lookup_cons] at h
    split at h
    · rename_i e
      cases h
      rw [eq_of_beq e]
      exact List.mem_cons_self ..
    · exact List.mem_cons_of_mem _ (lookup_mem h)
theorem ics_ok (hin : K.In base) (hns : base.Ns mainGlobals mg) (h : S.ck K = true) : ∀ x i, S.ics.lookup x = some i → ∃ t, mg x = some (.int i t) := fun x i hx => by
  obtain ⟨h, _⟩ := He.ba h
  obtain ⟨h, _⟩ := He.ba h
  obtain ⟨_, h⟩ := He.ba h
  obtain ⟨h, _⟩ := He.ba h
  exact He.int_ok hin hns (List.all_eq_true.mp h (x, i) (lookup_mem hx))
theorem dcs_get {K : PySem.W.Frag} : ∀ {xs : List Str} {Ds : List (List (Int × Int))}, dcsB K xs Ds = true → ∀ {j : Nat} {x : Str}, ixOf x xs = some j → ∃ D, Ds[j]? = some D ∧ (He.Fa.glo x).ok K = true ∧ dcB K (He.ga K x) D = true
  | [], _, _, j, x, h => by cases h
  | _ :: _, [], h, _, _, _ => by cases h
  | y :: ys, D :: Ds, h, j, x, hx => by
    obtain ⟨h1, h2⟩ := He.ba (show (((He.Fa.glo y).ok K && dcB K (He.ga K y) D) && dcsB K ys Ds) = true from h)
    unfold ixOf at hx
    split at hx
    · rename_i e
      cases hx
      subst e
      obtain ⟨h3, h4⟩ := He.ba h1
      exact ⟨D, rfl, h3, h4⟩
    · obtain ⟨i, q1, rfl⟩ := Option.map_eq_some_iff.mp hx
      obtain ⟨E, q2, q3⟩ := dcs_get h2 q1
      exact ⟨E, by simpa using q2, q3⟩
theorem dcs_ok (hin : K.In base) (hns : base.Ns mainGlobals mg) (h : S.ck K = true) : ∀ x j, ixOf x S.dcs = some j → ∃ D kvs, mg x = some (.ref D) ∧ S.P.dcs[j]? = some kvs ∧ dcB K D kvs = true := fun x j hx => by
  obtain ⟨h, _⟩ := He.ba h
  obtain ⟨h, _⟩ := He.ba h
  obtain ⟨_, h⟩ := He.ba h
  obtain ⟨_, h⟩ := He.ba h
  obtain ⟨D, h1, h2, h3⟩ := dcs_get h hx
  exact ⟨_, D, He.glo_ok hin hns h2, h1, h3⟩
theorem nodash_ok (h : S.ck K = true) : ∀ j, methOf S.P j "-" = none := fun j => by
  obtain ⟨h, _⟩ := He.ba h
  obtain ⟨h, _⟩ := He.ba h
  obtain ⟨h, _⟩ := He.ba h
  unfold methOf
  cases hc : S.P.clss[j]? with
  | none => rfl
  | some C =>
    have := List.all_eq_true.mp h C (List.mem_of_getElem? hc)
    rw [Option.bind_some]
    rw [Bool.or_eq_true] at this
    split
    · rfl
    · rename_i he
      rcases this with z | z
      · exact absurd z he
      · exact Option.isNone_iff_eq_none.mp z
theorem obj_get (h : S.ck K = true) {c : Nat} {C : Addr} {Cl : ClsM} (hc : (S.glob K).cA c = some C) (hl : S.P.clss[c]? = some Cl) : ∃ x, S.cls[c]? = some x ∧ C = He.ga K x ∧ (Cl.exc = false → objB S K x Cl = true) ∧ iniB S K x c Cl = true ∧ xcB S K x c Cl = true := by
  obtain ⟨x, h1, h2, h3⟩ := cls_get h hc hl
  obtain ⟨h3, _⟩ := He.ba h3
  obtain ⟨_, h3⟩ := He.ba h3
  obtain ⟨h4, h3⟩ := He.ba h3
  obtain ⟨h5, h6⟩ := He.ba h3
  refine ⟨x, h1, h2, fun he => ?_, h5, h6⟩
  rw [if_neg (by rw [he]; exact Bool.false_ne_true)] at h4
  exact h4
theorem objk_ok (h : S.ck K = true) : ObjK (S.glob K) where
  cls := fun c C Cl hc hl he => by
    obtain ⟨x, _, rfl, h2, _⟩ := obj_get h hc hl
    obtain ⟨q1, q⟩ := He.ba (h2 he)
    obtain ⟨q2, q⟩ := He.ba q
    obtain ⟨q3, q⟩ := He.ba q
    exact ⟨He.cls_ok q1, q2, fun n hn => of_decide_eq_true (List.all_eq_true.mp q3 n (nm_mem hn))⟩
  meth := fun c C Cl m f hc hl he hm => by
    obtain ⟨x, _, rfl, h2, _⟩ := obj_get h hc hl
    obtain ⟨_, q⟩ := He.ba (h2 he)
    obtain ⟨_, q⟩ := He.ba q
    obtain ⟨_, q⟩ := He.ba q
    obtain ⟨_, q⟩ := He.ba q
    obtain ⟨q, _⟩ := He.ba q
    have := List.all_eq_true.mp q (m, f) (lookup_mem hm)
    obtain ⟨w1, w⟩ := He.ba this
    obtain ⟨w2, w⟩ := He.ba w
    split at w
    · rename_i F hF
      obtain ⟨w3, w4⟩ := He.ba w
      have w3 := of_decide_eq_true w3
      have w4 := of_decide_eq_true w4
      refine ⟨He.fAd K F.d.at_, ?_, ?_, by simpa using w2⟩
      · show (match S.fs[f]? with
          | some F => if F.kd = FK.fn then some (He.fAd K F.d.at_) else none
          | none => none) = _
        rw [hF]
        simp only [w4, if_true]
      · rw [w3]
        exact He.meth_ok w1
    · cases w
  sub := fun c d C D Cl Dl hc hd hl hm he hf => by
    obtain ⟨x, _, rfl, h2, _⟩ := obj_get h hd hm
    obtain ⟨_, q⟩ := He.ba (h2 hf)
    obtain ⟨_, q⟩ := He.ba q
    obtain ⟨_, q⟩ := He.ba q
    obtain ⟨_, q⟩ := He.ba q
    obtain ⟨_, q⟩ := He.ba q
    obtain ⟨_, q⟩ := He.ba q
    obtain ⟨_, q⟩ := He.ba q
    obtain ⟨_, q⟩ := He.ba q
    have hc : (S.cls[c]?).map (He.ga K) = some C := hc
    obtain ⟨y, hy, rfl⟩ := Option.map_eq_some_iff.mp hc
    have := up_get q hy
    rw [Nat.zero_add] at this
    exact this
  ne := fun c C Cl hc hl he hn => by
    obtain ⟨x, _, rfl, h2, _⟩ := obj_get h hc hl
    obtain ⟨_, q⟩ := He.ba (h2 he)
    obtain ⟨_, q⟩ := He.ba q
    obtain ⟨_, q⟩ := He.ba q
    obtain ⟨_, q⟩ := He.ba q
    obtain ⟨_, q⟩ := He.ba q
    obtain ⟨q, _⟩ := He.ba q
    rw [hn, if_pos (show (none : Option Nat).isNone = true from rfl)] at q
    exact of_decide_eq_true q
  obj := fun c C Cl hc hl he => by
    obtain ⟨x, _, rfl, h2, _⟩ := obj_get h hc hl
    obtain ⟨_, q⟩ := He.ba (h2 he)
    obtain ⟨_, q⟩ := He.ba q
    obtain ⟨_, q⟩ := He.ba q
    obtain ⟨_, q⟩ := He.ba q
    obtain ⟨_, q⟩ := He.ba q
    obtain ⟨_, q⟩ := He.ba q
    obtain ⟨q, _⟩ := He.ba q
    exact of_decide_eq_true q
  fmt := fun c C Cl hc hl he => by
    obtain ⟨x, _, rfl, h2, _⟩ := obj_get h hc hl
    obtain ⟨_, q⟩ := He.ba (h2 he)
    obtain ⟨_, q⟩ := He.ba q
    obtain ⟨_, q⟩ := He.ba q
    obtain ⟨_, q⟩ := He.ba q
    obtain ⟨_, q⟩ := He.ba q
    obtain ⟨_, q⟩ := He.ba q
    obtain ⟨_, q⟩ := He.ba q
    obtain ⟨q, _⟩ := He.ba q
    exact of_decide_eq_true q
  refl := fun c C Cl hc hl he op ho => by
    obtain ⟨x, _, rfl, h2, _⟩ := obj_get h hc hl
    obtain ⟨_, q⟩ := He.ba (h2 he)
    obtain ⟨_, q⟩ := He.ba q
    obtain ⟨_, q⟩ := He.ba q
    obtain ⟨q3, q⟩ := He.ba q
    exact of_decide_eq_true (List.all_eq_true.mp q3 op ho)
/-- a class's __init__ -/
theorem ini_get (h : S.ck K = true) {c i : Nat} {C : Addr} {Cl : ClsM} (hc : (S.glob K).cA c = some C) (hl : S.P.clss[c]? = some Cl) (hi : Cl.init = some i) : ∃ F, S.fs[i]? = some F ∧ F.kd = .ini c ∧ Cl.exc = false ∧ Mk K C (He.fAd K F.d.at_) ∧ Cl.fields.Nodup ∧ Cl.fields.length < 1000 := by
  obtain ⟨x, _, rfl, _, h2, _⟩ := obj_get h hc hl
  unfold iniB at h2
  rw [hi] at h2
  simp only at h2
  obtain ⟨h3, h2⟩ := He.ba h2
  obtain ⟨h4, h2⟩ := He.ba h2
  obtain ⟨h5, h2⟩ := He.ba h2
  obtain ⟨h6, h7⟩ := He.ba h2
  split at h5
  · rename_i F hF
    obtain ⟨w3, w4⟩ := He.ba h5
    refine ⟨F, hF, of_decide_eq_true w4, by simpa using h3, ?_, of_decide_eq_true h6, of_decide_eq_true h7⟩
    rw [of_decide_eq_true w3]
    exact He.mkr_ok h4
  · cases h5
/-- an exception's __init__ -/
theorem xc_get (h : S.ck K = true) {c : Nat} {C : Addr} {Cl : ClsM} {f : Str} (hc : (S.glob K).cA c = some C) (hl : S.P.clss[c]? = some Cl) (he : Cl.exc = true) (hf : Cl.fields = [f]) :
    ∃ (i : Nat) (F : FS) (B : Str), S.fs[i]? = some F ∧ F.kd = .xin c f B ∧ OexC K C ∧ PySem.W.findIn K (.ref C) "__init__" = some (some (.ref (He.fAd K F.d.at_))) ∧ PySem.W.typeIn K (.ref (He.fAd K F.d.at_)) = some (.type "function") ∧
      (He.Fa.glo B).ok K = true ∧ ClX.CRead K (He.ga K B) (.type "type") ∧ PySem.W.findCls K (.ref (He.ga K B)) (.type "type") "__init__" = some (.val (.builtin "ValueError.__init__")) := by
  obtain ⟨x, _, rfl, _, _, h2⟩ := obj_get h hc hl
  unfold xcB at h2
  rw [hf] at h2
  simp only [he, if_true] at h2
  obtain ⟨h3, h2⟩ := He.ba h2
  obtain ⟨F, hm, h4⟩ := List.any_eq_true.mp h2
  obtain ⟨i, hi⟩ := List.mem_iff_getElem?.mp hm
  split at h4
  · rename_i c' f' B hk
    obtain ⟨w1, h4⟩ := He.ba h4
    obtain ⟨w2, h4⟩ := He.ba h4
    obtain ⟨w3, h4⟩ := He.ba h4
    obtain ⟨w4, h4⟩ := He.ba h4
    obtain ⟨w5, h4⟩ := He.ba h4
    obtain ⟨w6, h4⟩ := He.ba h4
    obtain ⟨w7, h4⟩ := He.ba h4
    obtain ⟨w8, w9⟩ := He.ba h4
    have w1 := of_decide_eq_true w1
    have w2 := of_decide_eq_true w2
    subst w1 w2
    refine ⟨i, F, B, hi, hk, oexB_ok h3, of_decide_eq_true w4, of_decide_eq_true w5, w6, ⟨w7, of_decide_eq_true w8⟩, ?_⟩
    split at w9
    · rename_i v hv
      rw [hv, eq_of_beq w9]
    · cases w9
  · cases h4
end
end Mch

/-! ## Every def of a text does what the machine says; the law -/
namespace Mch
open PySem PySem.Spec PyProof.Rows L2
def fnScB (N ps : List Str) (sc : Scope) : Bool := decide (sc.kind = .function) && (!sc.isCoroutine && (!sc.isGenerator && (decide N.Nodup && (decide (N.take ps.length = ps) && ((ps.all fun x => decide (sc.names.lookup x = some .local) || decide (sc.names.lookup x = some .cell)) && sc.names.all fun y => !decide (y.2 = .free))))))
theorem fnSc_ok {N ps : List Str} {sc : Scope} (h : fnScB N ps sc = true) : FnScope N ps sc := by
  unfold fnScB at h
  simp only [Bool.and_eq_true, decide_eq_true_eq, Bool.not_eq_true', List.all_eq_true, Bool.or_eq_true, decide_eq_false_iff_not] at h
  obtain ⟨h1, h2, h3, h4, h5, h6, h7⟩ := h
  exact ⟨h1, h2, h3, h4, h5, h6, h7⟩
def BindP (F : FS) : Prop := ∀ (K : PySem.W.Frag) (fd : FuncData) (f : Addr), FunD K F.d.name F.d.qual F.d.params F.d.body F.d.scope (F.d.dvs K) (F.d.kws K) f fd → ∀ m, m ≤ (F.d.dvs K).length → ∃ ds, Vals ((F.d.dvs K).drop m) ds ∧ Binds K fd F.ps ds
theorem bind0 {F : FS} (h1 : F.d.dfl = []) (h2 : F.d.kwd = []) (h : ∀ (kV doc pm : Value) (an : Option Addr) (cdv ct : Value) (us : List Value), us.length = F.ps.length → bindArgs (PySem.W.fnOf F.d.name F.d.qual F.d.params F.d.body F.d.scope .none kV doc pm an cdv ct) ⟨us, []⟩ = pure (F.ps.zip us)) : BindP F := by
  intro K fd f hF m hm
  have e1 : F.d.dvs K = [] := by unfold He.DefD.dvs; rw [h1]; rfl
  have e2 : F.d.kws K = [] := by unfold He.DefD.kws; rw [h2]; rfl
  rw [e1, e2] at hF
  rw [e1]
  exact ⟨[], by simpa using (Paired.nil : Paired RelV [] []), hF.bindsN h⟩
/-- one with defaults -/
theorem bindD {F : FS} (h2 : F.d.kwd = []) (hd : F.d.dfl ≠ []) (hl : F.d.dfl.length ≤ F.ps.length) (h : ∀ j, j ≤ F.d.dfl.length → ∀ (T : Addr) (kV doc pm : Value) (an : Option Addr) (cdv ct : Value) (us its : List Value), us.length = F.ps.length - (F.d.dfl.length - j) → its.length = F.d.dfl.length →
      ∃ k, bindArgs (PySem.W.fnOf F.d.name F.d.qual F.d.params F.d.body F.d.scope (.ref T) kV doc pm an cdv ct) ⟨us, []⟩ = seqItems? (.ref T) >>= k ∧ k (some its.toArray) = pure (F.ps.zip (us ++ its.drop j))) : BindP F := by
  intro K fd f hF m hm
  have e2 : F.d.kws K = [] := by unfold He.DefD.kws; rw [h2]; rfl
  have e1 : (F.d.dvs K).length = F.d.dfl.length := by unfold He.DefD.dvs; rw [List.length_map]
  rw [e2] at hF
  refine hF.binds1 (F.ps.length - (F.d.dfl.length - m)) m (fun z => ?_) (by omega) fun T kV doc pm an cdv ct us its h3 h4 => h m (by omega) T kV doc pm an cdv ct us its h3 (by omega)
  rw [z] at e1
  exact hd (List.length_eq_zero_iff.mp e1.symm)
def FK.isX : FK → Bool
  | .xin _ _ _ => true
  | _ => false
structure CmpP (S : Txt') (F : FS) (D : Def) : Prop where
  body : F.kd.isX = false → mapO (compS 40 (S.cfg F)) F.d.body = some D.body
  xin : ∀ c f B, F.kd = .xin c f B → xinB F.N f B F.d.body = true ∧ isVisB F.d.scope F.N = true ∧ F.d.scope.names.lookup B = some .globalImplicit ∧ (B == ("__debug__" : Str)) = false ∧ F.N.length = 2 ∧ F.ps = F.N ∧ F.d.dfl = []
  np : D.np = F.ps.length
  ns : D.ns = F.N.length
  dfl : mapO dvM F.d.dfl = some D.dfl
  kwd : F.d.kwd = []
  sc : fnScB F.N F.ps F.d.scope = true
def AllC (S : Txt') : List FS → List Def → Prop
  | [], [] => True
  | F :: Fs, D :: Ds => CmpP S F D ∧ AllC S Fs Ds
  | _, _ => False
def AllB : List FS → Prop
  | [] => True
  | F :: Fs => BindP F ∧ AllB Fs
theorem allC_get {S : Txt'} : ∀ {Fs : List FS} {Ds : List Def}, AllC S Fs Ds → ∀ {f : Nat} {F : FS}, Fs[f]? = some F → ∃ D, Ds[f]? = some D ∧ CmpP S F D
  | [], [], _, f, F, h => by simp at h
  | [], _ :: _, h, _, _, _ => h.elim
  | _ :: _, [], h, _, _, _ => h.elim
  | F :: Fs, D :: Ds, h, f, G, hf => by
    cases f with
    | zero =>
      simp at hf
      subst hf
      exact ⟨D, rfl, h.1⟩
    | succ f =>
      obtain ⟨E, h1, h2⟩ := allC_get h.2 (f := f) (F := G) (by simpa using hf)
      exact ⟨E, by simpa using h1, h2⟩
theorem allB_get : ∀ {Fs : List FS}, AllB Fs → ∀ {f : Nat} {F : FS}, Fs[f]? = some F → BindP F
  | [], _, f, F, h => by simp at h
  | F :: Fs, h, f, G, hf => by
    cases f with
    | zero =>
      simp at hf
      subst hf
      exact h.1
    | succ f => exact allB_get h.2 (f := f) (F := G) (by simpa using hf)
theorem dv_ok {g : Glob} {K : PySem.W.Frag} : ∀ {ds : List He.Dv} {xs : List MV}, mapO dvM ds = some xs → ∀ φ G, RVs g φ G xs (ds.map (He.Dv.v K))
  | [], xs, h, φ, G => by
    simp only [mapO, Option.some.injEq] at h
    subst h
    exact rvs_nil
  | d :: ds, xs, h, φ, G => by
    simp only [mapO] at h
    split at h
    · rename_i x xs' h1 h2
      cases h
      refine rvs_cons ?_ (dv_ok h2 φ G)
      cases d <;> simp only [dvM, Option.some.injEq, reduceCtorEq] at h1 <;> subst h1 <;> simp only [RV, He.Dv.v]
    · cases h
section
variable {g : Glob} {T : Tab} {D : Def}
theorem full_eq {xs : List MV} (h : xs.length = D.np) : fullArgs D xs = xs := by
  unfold fullArgs
  rw [h, Nat.sub_self, Nat.sub_zero, List.drop_length, List.append_nil]
theorem slots_ok {φ : List Addr} {G H : Hp} {xs : List MV} {vs : List V} {N : List Str} (h : RVs g φ G xs vs) (hn : D.ns = N.length) : RSt g φ G H .no (slots D xs) (L2.start N vs) := by
  refine ⟨⟨?_, fun i v e _ => ?_⟩, trivial⟩
  · unfold slots L2.start
    rw [List.length_append, List.length_append, List.length_map, List.length_map, List.length_replicate, List.length_replicate, h.len, hn]
  · unfold slots at e
    unfold L2.start
    by_cases hi : i < xs.length
    · rw [List.getElem?_append_left (by simpa using hi), List.getElem?_map] at e
      cases e1 : xs[i]? with
      | none => rw [e1] at e; cases e
      | some x =>
        rw [e1] at e
        simp only [Option.map_some, Option.some.injEq] at e
        subst e
        obtain ⟨w, h1, h2⟩ := h.get e1
        exact ⟨w, by rw [List.getElem?_append_left (by simp [← h.len]; exact hi), List.getElem?_map, h1]; rfl, h2⟩
    · rw [List.getElem?_append_right (by simpa using hi), List.getElem?_replicate] at e
      split at e <;> cases e
theorem run_ok {φ : List Addr} {G H : Hp} {μ : Mem} {xs : List MV} {vs : List V} {N : List Str} {Q : VK} {Ex : XK} (sb : Sub G H) (r : Rel g φ G μ) (h : RVs g φ G xs vs) (hn : D.ns = N.length) (hl : xs.length = D.np)
    (hg : Good g (fun cls dd _ H1 => Ex cls dd H1) [] φ G H (runD T D xs μ) (kE g Q)) : tR g (fun cls dd _ H1 => Ex cls dd H1) .no (evB T D.body) { nx := fun _ H' => Q .non H', rt := Q } (L2.start N vs) H := by
  refine ⟨φ, G, μ, slots D xs, sb, r, slots_ok h hn, ?_⟩
  unfold runD at hg
  rw [full_eq hl, if_pos hl] at hg
  revert hg
  cases evB T D.body (slots D xs) μ with
  | no => exact fun hg => hg
  | exc x σ μ1 => exact fun hg φ1 G1 H1 σ' e1 r1 _ => hg φ1 G1 H1 e1 r1
  | ok f μ1 => cases f with
    | next σ => exact fun hg φ1 G1 H1 σ' e1 r1 _ => hg φ1 G1 H1 e1 r1 _ (by simp only [RV])
    | ret v => exact fun hg φ1 G1 H1 w e1 r1 hw => hg φ1 G1 H1 e1 r1 w hw
    | brk σ => exact fun hg => hg.elim
    | cnt σ => exact fun hg => hg.elim
theorem slots_ini {φ : List Addr} {G H : Hp} {x C dx : Addr} {c : Nat} {Cl : ClsM} {xs : List MV} {vs : List V} {N : List Str} (h : RVs g φ G xs vs) (hn : D.ns = N.length) (hx : H x = some (.ins C dx [])) (hg : G x = none) (hc : g.cA c = some C) (hl : g.P.clss[c]? = some Cl) :
    RSt g φ G H (.ini x) (slots D (.obj c [] :: xs)) (L2.start N (.ref x :: vs)) := by
  have h0 := (slots_ok (g := g) (φ := φ) (G := G) (H := H) (xs := .non :: xs) (vs := .non :: vs) (N := N) (rvs_cons (by simp only [RV]) h) hn).env
  have e1 : ∀ (o : MV), slots D (o :: xs) = some o :: (xs.map some ++ List.replicate (D.ns - (xs.length + 1)) none) := fun o => rfl
  have e2 : ∀ (o : V), L2.start N (o :: vs) = some o :: (vs.map some ++ List.replicate (N.length - (vs.length + 1)) none) := fun o => rfl
  rw [e1, e2] at h0
  rw [e1, e2]
  refine ⟨⟨by simpa using h0.1, fun i v e3 e4 => ?_⟩, ⟨C, dx, [], c, [], Cl, rfl, hx, hg, rfl, hc, hl, rfl, rvs_nil⟩⟩
  cases i with
  | zero => simp [Md.ex] at e4
  | succ i => exact h0.2 (i + 1) v e3 rfl
theorem run_ini {φ : List Addr} {G H : Hp} {μ : Mem} {x C dx : Addr} {c : Nat} {Cl : ClsM} {xs : List MV} {vs : List V} {N : List Str} {Q : VK} {Ex : XK} (sb : Sub G H) (r : Rel g φ G μ) (h : RVs g φ G xs vs) (hn : D.ns = N.length) (hl : xs.length + 1 = D.np) (hx : H x = some (.ins C dx [])) (hg : G x = none) (hc : g.cA c = some C) (hcl : g.P.clss[c]? = some Cl)
    (hgood : GoodI g x C c Cl.fields φ G H Q Ex (runI T c Cl.fields.length D xs μ)) : tR g (fun cls dd _ H1 => Ex cls dd H1) (.ini x) (evB T D.body) { nx := fun _ H' => Q .non H', rt := Q } (L2.start N (.ref x :: vs)) H := by
  refine ⟨φ, G, μ, _, sb, r, slots_ini (c := c) (Cl := Cl) h hn hx hg hc hcl, ?_⟩
  unfold runI at hgood
  rw [full_eq (by simpa using hl), if_pos (by simpa using hl)] at hgood
  revert hgood
  cases evB T D.body (slots D (.obj c [] :: xs)) μ with
  | no => exact fun hg => hg
  | exc x' σ μ1 => exact fun hg φ1 G1 H1 σ' e1 r1 _ => hg φ1 G1 H1 e1 r1
  | ok f μ1 => cases f with
    | next σ =>
      intro hg φ1 G1 H1 σ' e1 r1 st
      obtain ⟨C', dx', fs, c', ws, Cl', s1, s2, s3, s4, s5, s6, s7, s8⟩ := st.self
      simp only [s4] at hg
      split at hg
      · rename_i hcc
        obtain ⟨rfl, hlen⟩ := hcc
        rw [hc] at s5
        cases s5
        rw [hcl] at s6
        cases s6
        exact hg φ1 G1 H1 ws dx' fs e1 r1 rfl s2 s3 (by rw [s7, hlen, List.take_length]) s8
      · exact hg.elim
    | ret v => exact fun hg => hg.elim
    | brk σ => exact fun hg => hg.elim
    | cnt σ => exact fun hg => hg.elim
theorem nm_get {S : Txt'} {x : Str} {f : Nat} (hx : x ≠ "") (h : ixOf x (S.fs.map FS.nm) = some f) : ∃ F, S.fs[f]? = some F ∧ F.d.at_.2 = none ∧ F.d.at_.1 = x := by
  have h := ixOf_get h
  rw [List.getElem?_map] at h
  obtain ⟨F, h1, h2⟩ := Option.map_eq_some_iff.mp h
  refine ⟨F, h1, ?_⟩
  unfold FS.nm at h2
  split at h2
  · exact ⟨by assumption, h2⟩
  · exact absurd h2.symm hx
section
variable {S : Txt'} {P : Program} {w : World} {K : PySem.W.Frag} {mg : Str → Option Value} {base : Heap} {n d : Nat}
theorem tabP (n d : Nat) : (tabD S.P n d).P = S.P := by cases d <;> rfl
theorem call_is {f : Nat} (hD : S.P.defs[f]? = some D) (xs : List MV) (μ : Mem) : (tabD S.P n (d + 1)).call f xs μ = runD (tabD S.P n d) D xs μ := by
  show (match S.P.defs[f]? with
    | some D => runD (tabD S.P n d) D xs μ
    | none => .no) = _
  rw [hD]
theorem call_full {f : Nat} (hD : S.P.defs[f]? = some D) (xs : List MV) (μ : Mem) (h : (fullArgs D xs).length = D.np) : (tabD S.P n d).call f xs μ = (tabD S.P n d).call f (fullArgs D xs) μ := by
  cases d with
  | zero => rfl
  | succ d =>
    rw [call_is hD, call_is hD]
    unfold runD
    rw [full_eq h]
theorem call_np {f : Nat} (hD : S.P.defs[f]? = some D) (xs : List MV) (μ : Mem) (z : (tabD S.P n d).call f xs μ ≠ .no) : (fullArgs D xs).length = D.np := by
  cases d with
  | zero => exact absurd rfl z
  | succ d =>
    rw [call_is hD] at z
    unfold runD at z
    by_cases e : (fullArgs D xs).length = D.np
    · exact e
    · rw [if_neg e] at z
      exact absurd rfl z
theorem glob_fA {f : Nat} {F : FS} (hF : S.fs[f]? = some F) (ha : F.d.at_.2 = none) : (S.glob K).fA f = some (He.fAd K F.d.at_) := by
  show (match S.fs[f]? with
    | some F => if F.d.at_.2.isNone then some (He.fAd K F.d.at_) else none
    | none => none) = _
  rw [hF]
  simp [ha]
theorem make_is {c i : Nat} {Cl : ClsM} (hl : S.P.clss[c]? = some Cl) (hi : Cl.init = some i) (hD : S.P.defs[i]? = some D) (xs : List MV) (μ : Mem) : (tabD S.P n (d + 1)).make c xs μ = runI (tabD S.P n d) c Cl.fields.length D xs μ := by
  show (match S.P.clss[c]? with
      | some C => (match C.init.bind fun i => S.P.defs[i]? with
        | some D => runI (tabD S.P n d) c C.fields.length D xs μ
        | none => .no)
      | none => .no) = _
  rw [hl]
  simp only [hi, Option.bind_some, hD]
theorem full_cons {D : Def} {o : MV} {xs : List MV} : fullArgs D (o :: xs) = o :: (xs ++ D.dfl.drop (D.dfl.length - (D.np - (xs.length + 1)))) := by
  unfold fullArgs
  rfl
theorem make_full {c i : Nat} {Cl : ClsM} (hl : S.P.clss[c]? = some Cl) (hi : Cl.init = some i) (hD : S.P.defs[i]? = some D) (xs : List MV) (μ : Mem) (z : (tabD S.P n d).make c xs μ ≠ .no) :
    (xs ++ D.dfl.drop (D.dfl.length - (D.np - (xs.length + 1)))).length + 1 = D.np ∧ (tabD S.P n d).make c xs μ = (tabD S.P n d).make c (xs ++ D.dfl.drop (D.dfl.length - (D.np - (xs.length + 1)))) μ := by
  cases d with
  | zero => exact absurd rfl z
  | succ d =>
    rw [make_is hl hi hD] at z
    by_cases e : (fullArgs D (.obj c [] :: xs)).length = D.np
    · have e1 : (xs ++ D.dfl.drop (D.dfl.length - (D.np - (xs.length + 1)))).length + 1 = D.np := by
        rw [full_cons, List.length_cons] at e
        exact e
      refine ⟨e1, ?_⟩
      rw [make_is hl hi hD, make_is hl hi hD]
      have e2 : fullArgs D (.obj c [] :: (xs ++ D.dfl.drop (D.dfl.length - (D.np - (xs.length + 1))))) = fullArgs D (.obj c [] :: xs) := by
        rw [full_eq (by rw [List.length_cons]; exact e1)]
        exact full_cons.symm
      unfold runI
      rw [e2]
    · unfold runI at z
      rw [if_neg e] at z
      exact absurd rfl z
theorem make_obj {c i : Nat} {Cl : ClsM} (hl : S.P.clss[c]? = some Cl) (hi : Cl.init = some i) (hD : S.P.defs[i]? = some D) (xs : List MV) (μ : Mem) (v : MV) (μ1 : Mem) (z : (tabD S.P n d).make c xs μ = .ok v μ1) : ∃ ws, v = .obj c ws ∧ ws.length = Cl.fields.length := by
  cases d with
  | zero => cases z
  | succ d =>
    rw [make_is hl hi hD] at z
    unfold runI at z
    split at z
    · split at z
      · split at z
        · split at z
          · rename_i hh
            cases z
            exact ⟨_, rfl, hh.2⟩
          · cases z
        · cases z
      · cases z
      · cases z
    · cases z
abbrev FnD (S : Txt') (K : PySem.W.Frag) : Prop := ∀ (f : Nat) (F : FS), S.fs[f]? = some F → ∃ fd, FunD K F.d.name F.d.qual F.d.params F.d.body F.d.scope (F.d.dvs K) (F.d.kws K) (He.fAd K F.d.at_) fd
abbrev OkF (S : Txt') (P : Program) (w : World) (K : PySem.W.Frag) (mg : Str → Option Value) (base : Heap) (n d : Nat) : Prop := ∀ (f : Nat) (F : FS) (fd : FuncData), S.fs[f]? = some F → F.kd = .fn → FunD K F.d.name F.d.qual F.d.params F.d.body F.d.scope (F.d.dvs K) (F.d.kws K) (He.fAd K F.d.at_) fd →
  FnOk P w K mg base (L2.CX P w) (3 * d) (He.fAd K F.d.at_) fd F.ps (spM (S.glob K) (tabD S.P n d) f)
abbrev OkI (S : Txt') (P : Program) (w : World) (K : PySem.W.Frag) (mg : Str → Option Value) (base : Heap) (n d : Nat) : Prop := ∀ (f c : Nat) (F : FS) (fd : FuncData) (Cl : ClsM), S.fs[f]? = some F → F.kd = .ini c → S.P.clss[c]? = some Cl → Cl.init = some f → FunD K F.d.name F.d.qual F.d.params F.d.body F.d.scope (F.d.dvs K) (F.d.kws K) (He.fAd K F.d.at_) fd →
  FnOk P w K mg base (L2.CX P w) (3 * d) (He.fAd K F.d.at_) fd F.ps (spI (S.glob K) (tabD S.P n d) c)
/-- a def of the top, as it is called -/
theorem funOk_of (hin : K.In base) (hns : base.Ns mainGlobals mg) (hck : S.ck K = true) (hfd : FnD S K) (hc : AllC S S.fs S.P.defs) (hb : AllB S.fs) (hFn : OkF S P w K mg base n d) :
    ∀ (f : Nat) (F : FS), S.fs[f]? = some F → F.d.at_.2 = none → FunOk (S.glob K) (tabD S.P n d) P w K mg base (3 * d) F.d.at_.1 f := by
  intro f F hF ha
  obtain ⟨fd, FD⟩ := hfd f F hF
  obtain ⟨D, hD, C⟩ := allC_get hc hF
  exact ⟨He.fAd K F.d.at_, fd, F.ps, F.d.dvs K, D, glob_fA hF ha, glo_of hin hns hck hF ha, FD.kp, by rw [tabP]; exact hD, fun φ G => dv_ok C.dfl φ G, allB_get hb hF K fd _ FD, hFn f F fd hF (kd_of hck hF ha) FD, call_full hD, call_np hD⟩
theorem metOk_of (hfd : FnD S K) (hc : AllC S S.fs S.P.defs) (hb : AllB S.fs) (hFn : OkF S P w K mg base n d) : ∀ f a, (S.glob K).mA f = some a → MetOk (S.glob K) (tabD S.P n d) P w K mg base (3 * d) f a := by
  intro f a ha
  have ha : (match S.fs[f]? with
    | some F => if F.kd = FK.fn then some (He.fAd K F.d.at_) else none
    | none => none) = some a := ha
  split at ha
  · rename_i F hF
    split at ha
    · rename_i hk
      cases ha
      obtain ⟨fd, FD⟩ := hfd f F hF
      obtain ⟨D, hD, C⟩ := allC_get hc hF
      exact ⟨fd, F.ps, F.d.dvs K, D, by rw [tabP]; exact hD, fun φ G => dv_ok C.dfl φ G, allB_get hb hF K fd _ FD, hFn f F fd hF hk FD, call_full hD, call_np hD⟩
    · cases ha
  · cases ha
theorem iniOk_of (hck : S.ck K = true) (hfd : FnD S K) (hc : AllC S S.fs S.P.defs) (hb : AllB S.fs) (hI : OkI S P w K mg base n d) : ∀ (j : Nat) (C : Addr) (Cl : ClsM), (S.glob K).cA j = some C → (S.glob K).P.clss[j]? = some Cl → Cl.exc = false → Cl.init.isSome = true → IniOk (S.glob K) (tabD S.P n d) P w K mg base (3 * d) j := by
  intro j C Cl h1 h2 h3 h4
  obtain ⟨i, hi⟩ := Option.isSome_iff_exists.mp h4
  have h2 : S.P.clss[j]? = some Cl := h2
  obtain ⟨F, hF, hk, _, hm, _⟩ := ini_get hck h1 h2 hi
  obtain ⟨fd, FD⟩ := hfd i F hF
  obtain ⟨D, hD, CC⟩ := allC_get hc hF
  exact ⟨C, He.fAd K F.d.at_, fd, F.ps, F.d.dvs K, Cl, i, D, h1, by rw [tabP]; exact h2, hi, by rw [tabP]; exact hD, hm, fun φ G => dv_ok CC.dfl φ G, allB_get hb hF K fd _ FD, hI i j F fd Cl hF hk h2 hi FD, fun xs μ z => make_full h2 hi hD xs μ z, fun xs μ v μ1 z => make_obj h2 hi hD xs μ v μ1 z⟩
theorem exF_of (hin : K.In base) (hns : base.Ns mainGlobals mg) (hck : S.ck K = true) (hfd : FnD S K) (hc : AllC S S.fs S.P.defs) (hb : AllB S.fs) : ∀ (j : Nat) (C : Addr) (Cl : ClsM) (f : Str), (S.glob K).cA j = some C → (S.glob K).P.clss[j]? = some Cl → Cl.exc = true → Cl.fields = [f] → ExF (S.glob K) P w K mg base (3 * d) j := by
  intro j C Cl f h1 h2 h3 h4
  have h2 : S.P.clss[j]? = some Cl := h2
  obtain ⟨i, F, B, hF, hk, q1, q2, q3, q4, q5, q6⟩ := xc_get hck h1 h2 h3 h4
  obtain ⟨fd, FD⟩ := hfd i F hF
  obtain ⟨D, hD, CC⟩ := allC_get hc hF
  obtain ⟨x1, x2, x3, x4, x5, x6, x7⟩ := CC.xin j f B hk
  have hno : PySem.W.findIn K (.ref C) f = some none := by
    have := ((excG_ok hck).fld j C Cl h1 h2 h3).2 f (by rw [h4]; exact List.mem_cons_self ..)
    exact this
  have e1 : F.d.dvs K = [] := by unfold He.DefD.dvs; rw [x7]; rfl
  have hbd : Binds K fd F.ps [] := by
    obtain ⟨ds, d1, d2⟩ := allB_get hb hF K fd _ FD 0 (Nat.zero_le _)
    rw [e1, List.drop_nil] at d1
    cases d1
    exact d2
  refine ⟨C, He.fAd K F.d.at_, fd, F.ps, f, Cl, h1, h2, h3, h4, q1, q2, q3, hno, hbd, ?_⟩
  · exact FD.ok (fnSc_ok CC.sc) (fun vs H Q E h => by
      obtain ⟨a, y, rfl, _⟩ := h
      rw [x6, x5]
      rfl) fun cdv A outer s H vs Q E hr h => by
      obtain ⟨a, y, rfl, ea, hT, hn, q⟩ := h
      exact xin_body x1 x2 x3 x4 (He.glo_ok hin hns q4) q5 q6 x5 hT hn ea q
/-- EVERY DEF -/
theorem fns_ok (hin : K.In base) (hns : base.Ns mainGlobals mg) (hck : S.ck K = true) (hfd : FnD S K) (hc : AllC S S.fs S.P.defs) (hb : AllB S.fs) (n : Nat) : ∀ (d : Nat), OkF S P w K mg base n d ∧ OkI S P w K mg base n d := by
  intro d
  induction d with
  | zero =>
    refine ⟨fun f F fd hF hk FD => ⟨fun vs H Q E h => ?_, fun A outer s H args us vs Q E _ _ _ _ h => ?_⟩, fun f c F fd Cl hF hk hl hi FD => ⟨fun vs H Q E h => ?_, fun A outer s H args us vs Q E _ _ _ _ h => ?_⟩⟩
    · obtain ⟨φ, G, μ, xs, D', _, _, _, _, _, z⟩ := h
      exact z.elim
    · obtain ⟨φ, G, μ, xs, D', _, _, _, _, _, z⟩ := h
      exact z.elim
    · obtain ⟨_, _, _, _, _, _, _, _, _, _, _, _, _, _, _, _, _, _, _, _, _, _, z⟩ := h
      exact z.elim
    · obtain ⟨_, _, _, _, _, _, _, _, _, _, _, _, _, _, _, _, _, _, _, _, _, _, z⟩ := h
      exact z.elim
  | succ d ih =>
    obtain ⟨ihF, ihI⟩ := ih
    have FO := funOk_of hin hns hck hfd hc hb ihF
    have MO := metOk_of hfd hc hb ihF
    have IO := iniOk_of hck hfd hc hb ihI
    have XO := exF_of (P := P) (w := w) (d := d) hin hns hck hfd hc hb
    have funs : ∀ (x : Str) f, x ≠ "" → ixOf x (S.fs.map FS.nm) = some f → FunOk (S.glob K) (tabD S.P n d) P w K mg base (3 * d) x f := fun (x : Str) f hx h => by
      obtain ⟨F', h1, h2, h3⟩ := nm_get hx h
      rw [← h3]
      exact FO f F' h1 h2
    have fadr : ∀ f a, (S.glob K).fA f = some a → ∃ x, FunOk (S.glob K) (tabD S.P n d) P w K mg base (3 * d) x f := fun f a h => by
      have h : (match S.fs[f]? with
        | some F => if F.d.at_.2.isNone then some (He.fAd K F.d.at_) else none
        | none => none) = some a := h
      split at h
      · rename_i F' hF'
        split at h
        · rename_i hn
          exact ⟨_, FO f F' hF' (by simpa using hn)⟩
        · cases h
      · cases h
    have fnd : ∀ (j : Nat) (Cl : ClsM), (S.glob K).P.clss[j]? = some Cl → Cl.init.isSome = true → Cl.fields.Nodup ∧ Cl.fields.length < 1000 := fun j Cl h1 h2 => by
      obtain ⟨i, hi⟩ := Option.isSome_iff_exists.mp h2
      have h1 : S.P.clss[j]? = some Cl := h1
      obtain ⟨hs, h3⟩ := He.ba hck
      obtain ⟨h4, h5⟩ := He.ba h3
      obtain ⟨x, h6, _⟩ := clss_get h5 h1
      have hA : (S.glob K).cA j = some (He.ga K x) := by
        show (S.cls[j]?).map _ = _
        rw [h6]
        rfl
      obtain ⟨F, _, _, _, _, h7⟩ := ini_get hck hA h1 hi
      exact h7
    have xok : ∀ (F : FS) (md : Md) (cdv : Value) (A : Around) (outer : List PySem.Env) (s : Shared) (H : Hp) (E : XK), FnScope F.N F.ps F.d.scope → Room (3 * d + 2) (A.deeper (envOfC F.d.qual F.d.scope s.heap.objs.size (He.fAd K F.d.at_) cdv)) →
        (∀ i, md.ex i = decide ((S.cfg F).xs = some i)) → md ≠ .hid0 → (∀ j a c d, md ≠ .exc j a c d) →
        XOk (cxOf (L2.CX P w) P w K mg base F.N F.d.qual F.d.scope (He.fAd K F.d.at_) cdv A outer s H E) (S.glob K) (tabD S.P n d) (fun cls dd _ H1 => E cls dd H1) md (S.cfg F) (3 * d) := fun F md cdv A outer s H E fsc hr hmd hh hx => by
      have tk := takes_of (X := cxOf (L2.CX P w) P w K mg base F.N F.d.qual F.d.scope (He.fAd K F.d.at_) cdv A outer s H E) rfl rfl rfl rfl
      exact ⟨rfl, fsc.nd, rfl, fsc.kind, fun _ => rfl, rfl, tabP n d, rfl, hr.units, kit_ok hck, excG_ok hck, fld_ok hck, fun _ => ⟨rfl, tk, hr⟩, fun _ => ⟨rfl, tabP n d, objk_ok hck, kit_ok hck, MO, hr, tk⟩, nodash_ok hck, IO, XO, ics_ok hin hns hck, dcs_ok hin hns hck, fun _ => hh, fnd, funs, fadr, clsn_ok hin hns hck, blt_ok hin hns hck, hmd, .inl ⟨rfl, hx⟩⟩
    refine ⟨fun f F fd hF hk FD => ?_, fun f c F fd Cl hF hk hl hi FD => ?_⟩
    · obtain ⟨D, hD, C⟩ := allC_get hc hF
      have hcb := C.body (by rw [hk]; rfl)
      have hres : FnOk P w K mg base (L2.CX P w) (3 * d + 2 + 1) (He.fAd K F.d.at_) fd F.ps (spM (S.glob K) (tabD S.P n (d + 1)) f) := by
        refine FD.ok (fnSc_ok C.sc) (fun vs H Q E h => ?_) fun cdv A outer s H vs Q E hr h => ⟨tR (S.glob K) (fun cls dd _ H1 => E cls dd H1) .no (evB (tabD S.P n d) D.body), ?_, ?_⟩
        · obtain ⟨φ, G, μ, xs, D', _, _, h1, h2, h3, _⟩ := h
          rw [tabP] at h2
          rw [hD] at h2
          cases h2
          rw [← h1.len, h3, C.np]
        · exact body_ok (k := 3 * d) (c := S.cfg F) (rec := compS 40) (compS_ok 40) (xok F .no cdv A outer s H E (fnSc_ok C.sc) hr (fun i => by
            show false = decide ((match F.kd with
              | .ini _ => some 0
              | _ => none) = some i)
            rw [hk]
            rfl) (fun z => by cases z) (fun _ _ _ _ z => by cases z)) ⟨fun _ => ⟨passes_of (X := cxOf (L2.CX P w) P w K mg base F.N F.d.qual F.d.scope (He.fAd K F.d.at_) cdv A outer s H E) rfl, rfl, rfl⟩⟩ hcb
        · obtain ⟨φ, G, μ, xs, D', sb, r, h1, h2, h3, h4⟩ := h
          rw [tabP] at h2
          rw [hD] at h2
          cases h2
          rw [call_is hD] at h4
          exact run_ok sb r h1 C.ns h3 h4
      exact hres
    · obtain ⟨D, hD, C⟩ := allC_get hc hF
      have hcb := C.body (by rw [hk]; rfl)
      have hres : FnOk P w K mg base (L2.CX P w) (3 * d + 2 + 1) (He.fAd K F.d.at_) fd F.ps (spI (S.glob K) (tabD S.P n (d + 1)) c) := by
        refine FD.ok (fnSc_ok C.sc) (fun vs H Q E h => ?_) fun cdv A outer s H vs Q E hr h => ?_
        · obtain ⟨x, rest, C', dx, φ, G, μ, xs, Cl', i, D', rfl, _, _, _, _, h1, _, h2, h3, h4, h5, _⟩ := h
          rw [tabP] at h2 h4
          rw [hl] at h2
          cases h2
          rw [hi] at h3
          cases h3
          rw [hD] at h4
          cases h4
          rw [List.length_cons, ← h1.len, h5, C.np]
        · obtain ⟨x, rest, C', dx, φ, G, μ, xs, Cl', i, D', rfl, hx, hg, sb, r, h1, hcA, h2, h3, h4, h5, h6⟩ := h
          rw [tabP] at h2 h4
          rw [hl] at h2
          cases h2
          rw [hi] at h3
          cases h3
          rw [hD] at h4
          cases h4
          rw [make_is hl hi hD] at h6
          refine ⟨tR (S.glob K) (fun cls dd _ H1 => E cls dd H1) (.ini x) (evB (tabD S.P n d) D.body), ?_, run_ini sb r h1 C.ns h5 hx hg hcA hl h6⟩
          exact body_ok (k := 3 * d) (c := S.cfg F) (rec := compS 40) (compS_ok 40) (xok F (.ini x) cdv A outer s H E (fnSc_ok C.sc) hr (fun i => by
            show (i == 0) = decide ((match F.kd with
              | .ini _ => some 0
              | _ => none) = some i)
            rw [hk]
            by_cases e : i = 0
            · subst e; rfl
            · have e' : (0 : Nat) ≠ i := fun z => e z.symm
              simp [e, e']) (fun z => by cases z) (fun _ _ _ _ z => by cases z)) ⟨fun _ => ⟨passes_of (X := cxOf (L2.CX P w) P w K mg base F.N F.d.qual F.d.scope (He.fAd K F.d.at_) cdv A outer s H E) rfl, rfl, rfl⟩⟩ hcb
      exact hres
end
end
end Mch

/-! ## The head and the law's end -/
namespace Mch
open PySem PySem.Spec PyProof.Rows L2
def obsM (S : Txt') (K : PySem.W.Frag) : He.AlD := (S.ck K && S.fs.all fun F => F.d.ok K, S.fs.map fun F => He.fnW K F.d.at_)
def valM (S : Txt') : He.AlD := (true, S.fs.map fun F => F.d.val)
def SaysM (S : Txt') (K : PySem.W.Frag) : Prop := obsM S K = valM S
def obsMG (n : Nat) (S : Txt') (g : Addr → Option Obj) : He.AlD := obsM S (He.frG g (cStatics :: He.asD g n))
def hookM (n : Nat) (S : Txt') : PySem.W.Hook where
  α := He.AlD
  obs := fun s => obsMG n S s.heap.get?
  val := fun _ => valM S
  says := fun _ h => ∃ K : PySem.W.Frag, K.In h ∧ SaysM S K
  of := fun _ _ e => ⟨_, He.frG_in, e⟩
  keeps := fun _ _ _ ⟨K, hK, c⟩ k => ⟨K, PySem.W.Frag.In.keeps hK k, c⟩
theorem obsMG_eq {n : Nat} {S : Txt'} {g : Addr → Option Obj} {s : Shared} (h : ∀ a, g a = s.heap.get? a) : obsMG n S g = (hookM n S).obs s := by
  have e : g = s.heap.get? := funext h
  rw [e] <;> rfl
section
variable {S : Txt'} {K : PySem.W.Frag}
theorem SaysM.ck (c : SaysM S K) : S.ck K = true := (He.ba (show (S.ck K && S.fs.all fun F => F.d.ok K) = true from congrArg (fun z : He.AlD => z.1) c)).1
theorem SaysM.fd (c : SaysM S K) (f : Nat) (F : FS) (h : S.fs[f]? = some F) : ∃ fd, FunD K F.d.name F.d.qual F.d.params F.d.body F.d.scope (F.d.dvs K) (F.d.kws K) (He.fAd K F.d.at_) fd := by
  have c2 := (He.ba (show (S.ck K && S.fs.all fun F => F.d.ok K) = true from congrArg (fun z : He.AlD => z.1) c)).2
  have e : S.fs.map (fun F => He.fnW K F.d.at_) = S.fs.map fun F => F.d.val := congrArg (fun z : He.AlD => z.2) c
  have e2 : (S.fs.map fun F => He.fnW K F.d.at_)[f]? = (S.fs.map fun F => F.d.val)[f]? := by rw [e]
  rw [List.getElem?_map, List.getElem?_map, h] at e2
  exact He.DefD.funD (Option.some.inj e2) (List.all_eq_true.mp c2 F (List.mem_of_getElem? h))
end
/-- the world with one of its settings known -/
def setF (w : World) (b : Bool) : World := { w with params := { w.params with followText := fun s => if s = "special-get-raises" then b else w.params.followText s } }
theorem setF_eq (w : World) : setF w (w.params.followText "special-get-raises") = w := by
  have key : (fun s => if s = "special-get-raises" then w.params.followText "special-get-raises" else w.params.followText s) = w.params.followText := by
    funext s
    by_cases h : s = "special-get-raises"
    · rw [if_pos h, h]
    · rw [if_neg h]
  show ({ w with params := { w.params with followText := fun s => if s = "special-get-raises" then w.params.followText "special-get-raises" else w.params.followText s } } : World) = w
  rw [key]
/-- the script as the machine has it -/
theorem script_rv {g : Glob} {H : Hp} {a : Addr} {ns : List Int} (hO : Only H) (hS : SqL g.K H a (ns.map V.int)) : ∃ φ, Rel g φ H [.frz (ns.map MV.int)] ∧ RVs g φ H [.ref 0] [.ref a] := by
  refine ⟨[a], ⟨rfl, fun i j b c d h1 h2 h3 h4 m1 m2 => ?_, fun i b c h1 h2 => ?_⟩, rvs_cons (by simp only [RV]; exact ⟨a, rfl, rfl⟩) rvs_nil⟩
  · cases i with
    | zero => simp at h3; subst h3; cases m1
    | succ i => simp at h3
  · cases i with
    | succ i => simp at h2
    | zero =>
      simp at h1 h2
      subst h1 h2
      refine ⟨ns.map V.int, ?_, ?_⟩
      · rcases hS with (h | ⟨o, h⟩) | ⟨o, its, n, h⟩
        · rcases hO a with z | ⟨o, xs, z⟩ <;> rw [h] at z <;> cases z
        · exact .inl ⟨o, h⟩
        · exact .inr fun G1 => .inr ⟨o, its, n, h⟩
      · refine rvs_iff.mpr ⟨by simp, fun i x v e1 e2 => ?_⟩
        rw [List.getElem?_map] at e1 e2
        cases e : ns[i]? with
        | none => rw [e] at e1; cases e1
        | some z =>
          rw [e] at e1 e2
          cases e1
          cases e2
          simp only [RV]
/-- A LAW OF A TEXT: what the machine's run of the def li gives at every script -/
theorem walk_ofM {S : Txt'} {l : PySem.W.OpenLaw} {n m k N li : Nat} {q : Program} {loose : List Str} {XP : (Str → Option Value) → Heap → Prop} {d : DefRec} {x : Str} {F : FS}
    (hn : l.most = some n) (hn2 : n ≤ sizeLine) (hdf : d.params.defaults = []) (hr : Room (3 * k) callerA) (hF : S.fs[li]? = some F) (hkd : F.kd = .fn) (ha : F.d.at_ = (d.name, none)) (hps : F.ps = [x]) (hdl : F.d.dfl = [])
    (hbd : ∀ (K : PySem.W.Frag) (fd : FuncData) (f : Addr), FunD K F.d.name F.d.qual F.d.params F.d.body F.d.scope [] [] f fd → ∀ (s : Shared) (u : Value), BindsTo s fd ⟨[u], []⟩ [(x, u)])
    (hc : AllC S S.fs S.P.defs) (hb : AllB S.fs)
    (run : ∀ ns : List Int, ns.length ≤ n → (∀ z ∈ ns, Builtin.Int.intBits z ≤ 1048576) → ∃ μ, (tabD S.P N k).call li [.ref 0] [.frz (ns.map MV.int)] = .ok (.bl true) μ) :
    PySem.W.WalkO q loose XP (hookM m S).says l.row.toRowW d [] (fun f vs => PySem.call f vs) := by
  refine Att.attach_callB hn hdf fun w s₀ s₁ mg mb fa o pm cd doc a vs ns G Y ho hd hcd hmg hobj hints hlen hbits hg => ?_
  obtain ⟨K, KX, c⟩ := Y
  obtain ⟨D, hD, C⟩ := allC_get hc hF
  have hfd := c.fd
  have ck := c.ck
  obtain ⟨fd, FD⟩ := c.fd li F hF
  have e1 : F.d.dvs K = [] := by unfold He.DefD.dvs; rw [hdl]; rfl
  have e2 : F.d.kws K = [] := by unfold He.DefD.kws; rw [C.kwd]; rfl
  rw [e1, e2] at FD
  have efa : He.fAd K F.d.at_ = fa := by
    have := glo_of KX G.T.g ck hF (by rw [ha])
    rw [ha] at this
    rw [hmg] at this
    cases this
    rw [ha]
  have FO : ∀ base : Heap, K.In base → base.Ns mainGlobals mg → FnOk l.prog w K mg base (L2.CX l.prog w) (3 * k) fa fd [x] (spM (S.glob K) (tabD S.P N k) li) := fun base h1 h2 => by
    have := (fns_ok (P := l.prog) (w := w) h1 h2 ck hfd hc hb N k).1 li F fd hF hkd (by rw [e1, e2]; exact FD)
    rw [efa, hps] at this
    exact this
  rw [efa] at FD
  refine law_call (k := 3 * k) (sp := spM (S.glob K) (tabD S.P N k) li) (CX := L2.CX l.prog w) KX G.T.g G.T.b G.T.builtins G.T.nolimit hg hobj hints (Nat.le_trans hlen hn2) hr FO (hbd K fd fa FD) (fun H hO hS => ?_) fun H e s' z => ?_
  · obtain ⟨φ, r, rv⟩ := script_rv (g := S.glob K) hO hS
    obtain ⟨μ, hrun⟩ := run ns hlen hbits
    have hT : (tabD S.P N k).P = S.P := by cases k <;> rfl
    refine ⟨φ, H, [.frz (ns.map MV.int)], [.ref 0], D, fun _ _ h => h, r, rv, by rw [hT]; exact hD, by rw [C.np, hps]; rfl, ?_⟩
    rw [hrun]
    intro φ1 G1 H1 e1 r1 w' hw
    simpa only [RV] using hw
  · obtain ⟨_, _, _, _, _, _, _, _, _, _, _, _, z⟩ := z
    exact z
end Mch

/-! ## k03: the program of the machine -/
namespace Mch.k03
open PySem L2 Mch
/- _wall(0 k) -/
def d0 : Def := ⟨1, [], 1, [
  .while (.bl true) [.pass]]⟩
/- Refused.__init__: an exception's -/
def d1 : Def := ⟨2, [], 2, []⟩
/- is_integer(0 value) -/
def d2 : Def := ⟨1, [], 1, [
  .ret (.and (.isin (.var 0) [.int]) (.not (.isin (.var 0) [.bool])))]⟩
/- is_count(0 value, 1 low, 2 high) -/
def d3 : Def := ⟨3, [], 3, [
  .ret (.and (.call 2 [(.var 0)]) (.cmp2 .LtE .LtE (.var 1) (.var 0) (.var 2)))]⟩
/- check_count(0 value, 1 low, 2 high) -/
def d4 : Def := ⟨3, [], 3, [
  .ite (.not (.call 3 [(.var 0), (.var 1), (.var 2)])) [.raise 1 [(.str "a number")]] []]⟩
/- common(0 a, 1 b) -/
def d5 : Def := ⟨2, [], 2, [
  .asg (.tup [(.var 0), (.var 1)]) (.tup [(.bi .abs [(.var 0)]), (.bi .abs [(.var 1)])]),
  .while (.cmp .Gt (.var 1) (.int 0)) [.asg (.tup [(.var 0), (.var 1)]) (.tup [(.var 1), (.bin .Mod (.var 0) (.var 1))])],
  .ret (.var 0)]⟩
/- Ratio.__init__(0 self, 1 n, 2 d, 3 g) -/
def d6 : Def := ⟨3, [.int 1], 4, [
  .ite (.or (.not (.call 2 [(.var 1)])) (.not (.call 2 [(.var 2)]))) [.raise 1 [(.str "a number")]] [],
  .ite (.ocmp .Eq (.var 2) (.int 0)) [.raise 2 [(.str "zero")]] [],
  .asg (.var 3) (.call 5 [(.var 1), (.var 2)]),
  .setf "n" (.ite (.ocmp .Gt (.var 2) (.int 0)) (.obin .FloorDiv (.var 1) (.var 3)) (.obin .FloorDiv (.oneg (.var 1)) (.var 3))),
  .setf "d" (.obin .FloorDiv (.bi .abs [(.var 2)]) (.var 3))]⟩
/- Ratio.__add__(0 self, 1 other) -/
def d7 : Def := ⟨2, [], 2, [
  .expr (.call 21 [(.var 1)]),
  .ret (.mk 3 [(.obin .Add (.obin .Mult (.fld (.var 0) "n") (.fld (.var 1) "d")) (.obin .Mult (.fld (.var 1) "n") (.fld (.var 0) "d"))), (.obin .Mult (.fld (.var 0) "d") (.fld (.var 1) "d"))])]⟩
/- Ratio.__sub__(0 self, 1 other) -/
def d8 : Def := ⟨2, [], 2, [
  .expr (.call 21 [(.var 1)]),
  .ret (.mk 3 [(.obin .Sub (.obin .Mult (.fld (.var 0) "n") (.fld (.var 1) "d")) (.obin .Mult (.fld (.var 1) "n") (.fld (.var 0) "d"))), (.obin .Mult (.fld (.var 0) "d") (.fld (.var 1) "d"))])]⟩
/- Ratio.__mul__(0 self, 1 other) -/
def d9 : Def := ⟨2, [], 2, [
  .expr (.call 21 [(.var 1)]),
  .ret (.mk 3 [(.obin .Mult (.fld (.var 0) "n") (.fld (.var 1) "n")), (.obin .Mult (.fld (.var 0) "d") (.fld (.var 1) "d"))])]⟩
/- Ratio.__neg__(0 self) -/
def d10 : Def := ⟨1, [], 1, [
  .ret (.mk 3 [(.oneg (.fld (.var 0) "n")), (.fld (.var 0) "d")])]⟩
/- Ratio.__eq__(0 self, 1 other) -/
def d11 : Def := ⟨2, [], 2, [
  .ret (.and (.isin (.var 1) [.cls 3]) (.and (.ocmp .Eq (.fld (.var 0) "n") (.fld (.var 1) "n")) (.ocmp .Eq (.fld (.var 0) "d") (.fld (.var 1) "d"))))]⟩
/- Ratio.less(0 self, 1 other) -/
def d12 : Def := ⟨2, [], 2, [
  .expr (.call 0 [(.int 0)])]⟩
/- Ratio.__str__(0 self) -/
def d13 : Def := ⟨1, [], 1, [
  .ite (.ocmp .Eq (.fld (.var 0) "d") (.int 1)) [.ret (.ostr (.fld (.var 0) "n"))] [],
  .ret (.fstr [(.fmt (.fld (.var 0) "n")), (.str "/"), (.fmt (.fld (.var 0) "d"))])]⟩
/- Ratio.over(0 self, 1 other) -/
def d14 : Def := ⟨2, [], 2, [
  .expr (.call 21 [(.var 1)]),
  .ret (.mk 3 [(.obin .Mult (.fld (.var 0) "n") (.fld (.var 1) "d")), (.obin .Mult (.fld (.var 0) "d") (.fld (.var 1) "n"))])]⟩
/- Ratio.times(0 self, 1 k) -/
def d15 : Def := ⟨2, [], 2, [
  .ret (.mk 3 [(.obin .Mult (.fld (.var 0) "n") (.var 1)), (.fld (.var 0) "d")])]⟩
/- Ratio.sign(0 self) -/
def d16 : Def := ⟨1, [], 1, [
  .ret (.ite (.ocmp .Gt (.fld (.var 0) "n") (.int 0)) (.int 1) (.ite (.ocmp .Lt (.fld (.var 0) "n") (.int 0)) (.oneg (.int 1)) (.int 0)))]⟩
/- Ratio.is_zero(0 self) -/
def d17 : Def := ⟨1, [], 1, [
  .expr (.call 0 [(.int 1)])]⟩
/- Ratio.is_whole(0 self) -/
def d18 : Def := ⟨1, [], 1, [
  .expr (.call 0 [(.int 2)])]⟩
/- Ratio.floor(0 self) -/
def d19 : Def := ⟨1, [], 1, [
  .expr (.call 0 [(.int 3)])]⟩
/- Ratio.size(0 self) -/
def d20 : Def := ⟨1, [], 1, [
  .expr (.call 0 [(.int 4)])]⟩
/- check_ratio(0 value) -/
def d21 : Def := ⟨1, [], 1, [
  .ite (.not (.isin (.var 0) [.cls 3])) [.raise 1 [(.str "a Ratio")]] []]⟩
/- Surd.__init__(0 self, 1 a, 2 b, 3 d) -/
def d22 : Def := ⟨4, [], 4, [
  .expr (.call 21 [(.var 1)]),
  .expr (.call 21 [(.var 2)]),
  .ite (.or (.cmp .NotIn (.var 3) (.tup [(.int 1), (.int 2), (.int 3), (.int 5)])) (.or (.isin (.var 3) [.bool]) (.and (.ocmp .Eq (.var 3) (.int 1)) (.ocmp .NotEq (.omth "sign" (.var 2) []) (.int 0))))) [.raise 1 [(.str "a number with a root")]] [],
  .setf "a" (.var 1),
  .setf "b" (.var 2),
  .setf "d" (.var 3)]⟩
/- Surd.__eq__(0 self, 1 other) -/
def d23 : Def := ⟨2, [], 2, [
  .ret (.and (.isin (.var 1) [.cls 4]) (.and (.ocmp .Eq (.fld (.var 0) "d") (.fld (.var 1) "d")) (.and (.ocmp .Eq (.fld (.var 0) "a") (.fld (.var 1) "a")) (.ocmp .Eq (.fld (.var 0) "b") (.fld (.var 1) "b")))))]⟩
/- Surd.__str__(0 self, 1 plus) -/
def d24 : Def := ⟨1, [], 2, [
  .ite (.ocmp .Eq (.omth "sign" (.fld (.var 0) "b") []) (.int 0)) [.ret (.ostr (.fld (.var 0) "a"))] [],
  .asg (.var 1) (.ite (.ocmp .Gt (.omth "sign" (.fld (.var 0) "b") []) (.int 0)) (.str "+") (.str "")),
  .ret (.fstr [(.fmt (.fld (.var 0) "a")), (.fmt (.var 1)), (.fmt (.fld (.var 0) "b")), (.str "r"), (.fmt (.fld (.var 0) "d"))])]⟩
/- Surd.__add__(0 self, 1 other) -/
def d25 : Def := ⟨2, [], 2, [
  .expr (.call 31 [(.var 0), (.var 1)]),
  .ret (.mk 4 [(.obin .Add (.fld (.var 0) "a") (.fld (.var 1) "a")), (.obin .Add (.fld (.var 0) "b") (.fld (.var 1) "b")), (.fld (.var 0) "d")])]⟩
/- Surd.__sub__(0 self, 1 other) -/
def d26 : Def := ⟨2, [], 2, [
  .expr (.call 31 [(.var 0), (.var 1)]),
  .ret (.mk 4 [(.obin .Sub (.fld (.var 0) "a") (.fld (.var 1) "a")), (.obin .Sub (.fld (.var 0) "b") (.fld (.var 1) "b")), (.fld (.var 0) "d")])]⟩
/- Surd.__mul__(0 self, 1 other, 2 a) -/
def d27 : Def := ⟨2, [], 3, [
  .expr (.call 31 [(.var 0), (.var 1)]),
  .asg (.var 2) (.obin .Add (.obin .Mult (.fld (.var 0) "a") (.fld (.var 1) "a")) (.omth "times" (.obin .Mult (.fld (.var 0) "b") (.fld (.var 1) "b")) [(.fld (.var 0) "d")])),
  .ret (.mk 4 [(.var 2), (.obin .Add (.obin .Mult (.fld (.var 0) "a") (.fld (.var 1) "b")) (.obin .Mult (.fld (.var 0) "b") (.fld (.var 1) "a"))), (.fld (.var 0) "d")])]⟩
/- Surd.__neg__(0 self) -/
def d28 : Def := ⟨1, [], 1, [
  .ret (.mk 4 [(.oneg (.fld (.var 0) "a")), (.oneg (.fld (.var 0) "b")), (.fld (.var 0) "d")])]⟩
/- Surd.over(0 self, 1 other, 2 low, 3 turned) -/
def d29 : Def := ⟨2, [], 4, [
  .expr (.call 31 [(.var 0), (.var 1)]),
  .asg (.var 2) (.obin .Sub (.obin .Mult (.fld (.var 1) "a") (.fld (.var 1) "a")) (.omth "times" (.obin .Mult (.fld (.var 1) "b") (.fld (.var 1) "b")) [(.fld (.var 1) "d")])),
  .ite (.ocmp .Eq (.omth "sign" (.var 2) []) (.int 0)) [.raise 2 [(.str "zero")]] [],
  .asg (.var 3) (.obin .Mult (.var 0) (.mk 4 [(.fld (.var 1) "a"), (.oneg (.fld (.var 1) "b")), (.fld (.var 1) "d")])),
  .ret (.mk 4 [(.omth "over" (.fld (.var 3) "a") [(.var 2)]), (.omth "over" (.fld (.var 3) "b") [(.var 2)]), (.fld (.var 0) "d")])]⟩
/- Surd.sign(0 self, 1 gap, 2 a, 3 b) -/
def d30 : Def := ⟨1, [], 4, [
  .asg (.tup [(.var 2), (.var 3)]) (.tup [(.omth "sign" (.fld (.var 0) "a") []), (.omth "sign" (.fld (.var 0) "b") [])]),
  .ite (.or (.ocmp .Eq (.var 2) (.var 3)) (.ocmp .Eq (.var 3) (.int 0))) [.ret (.var 2)] [],
  .ite (.ocmp .Eq (.var 2) (.int 0)) [.ret (.var 3)] [],
  .asg (.var 1) (.obin .Sub (.obin .Mult (.fld (.var 0) "a") (.fld (.var 0) "a")) (.omth "times" (.obin .Mult (.fld (.var 0) "b") (.fld (.var 0) "b")) [(.fld (.var 0) "d")])),
  .ret (.ite (.ocmp .Gt (.omth "sign" (.var 1) []) (.int 0)) (.var 2) (.var 3))]⟩
/- check_pair(0 one, 1 two) -/
def d31 : Def := ⟨2, [], 2, [
  .ite (.or (.not (.isin (.var 0) [.cls 4])) (.or (.not (.isin (.var 1) [.cls 4])) (.ocmp .NotEq (.fld (.var 0) "d") (.fld (.var 1) "d")))) [.raise 1 [(.str "numbers with a root")]] []]⟩
/- whole_surd(0 n, 1 d) -/
def d32 : Def := ⟨2, [], 2, [
  .ret (.mk 4 [(.mk 3 [(.var 0)]), (.mk 3 [(.int 0)]), (.var 1)])]⟩
/- root_of_level(0 r) -/
def d33 : Def := ⟨1, [], 1, [
  .expr (.call 4 [(.var 0), (.int 3), (.int 6)]),
  .ret (.cdx 0 (.var 0))]⟩
/- turn_number(0 n, 1 r, 2 d, 3 half, 4 _, 5 two, 6 last, 7 own) -/
def d34 : Def := ⟨2, [], 8, [
  .expr (.call 4 [(.var 1), (.int 3), (.int 6)]),
  .expr (.call 4 [(.var 0), (.int 0), (.obin .Mult (.int 2) (.var 1))]),
  .asg (.var 2) (.cdx 0 (.var 1)),
  .asg (.var 3) (.mk 3 [(.int 1), (.int 2)]),
  .ite (.ocmp .Eq (.var 1) (.int 3)) [.asg (.var 5) (.call 32 [(.int 1), (.int 1)])] [.asg (.var 5) (.ite (.ocmp .Eq (.var 1) (.int 5)) (.mk 4 [(.var 3), (.var 3), (.int 5)]) (.mk 4 [(.mk 3 [(.int 0)]), (.mk 3 [(.int 1)]), (.var 2)]))],
  .asg (.tup [(.var 6), (.var 7)]) (.tup [(.call 32 [(.int 0), (.var 2)]), (.call 32 [(.int 1), (.var 2)])]),
  .ite (.ocmp .Eq (.var 0) (.int 0)) [.ret (.var 6)] [],
  .for (.var 4) (.rng [(.obin .Sub (.var 0) (.int 1))]) [.asg (.tup [(.var 6), (.var 7)]) (.tup [(.var 7), (.obin .Sub (.obin .Mult (.var 5) (.var 7)) (.var 6))])],
  .ret (.var 7)]⟩
/- turn_product(0 n, 1 r, 2 found, 3 k) -/
def d35 : Def := ⟨2, [], 4, [
  .expr (.call 4 [(.var 1), (.int 3), (.int 6)]),
  .expr (.call 4 [(.var 0), (.int 0), (.obin .Sub (.var 1) (.int 1))]),
  .asg (.var 2) (.call 32 [(.int 1), (.cdx 0 (.var 1))]),
  .for (.var 3) (.rng [(.int 1), (.obin .Add (.var 0) (.int 1))]) [.asg (.var 2) (.obin .Mult (.var 2) (.call 34 [(.var 3), (.var 1)]))],
  .ret (.var 2)]⟩
/- _law_state(0 script, 1 seed, 2 total, 3 cell) -/
def d36 : Def := ⟨1, [], 4, [
  .asg (.var 1) (.int 0),
  .asg (.var 2) (.int 1),
  .for (.var 3) (.slc (.var 0) .non (.int 63)) [.asg (.var 1) (.bin .Add (.bin .Mult (.var 1) (.int 1000003)) (.bi .abs [(.var 3)])), .asg (.var 2) (.bin .Mod (.bi .int [(.bin .Add (.bin .Mult (.var 2) (.int 48271)) (.var 3))]) (.int 2147483647))],
  .ret (.lst [(.var 1), (.ite (.cmp .NotEq (.var 2) (.int 1973665155)) (.var 2) (.int 7))])]⟩
/- _law_take(0 state, 1 m, 2 value) -/
def d37 : Def := ⟨2, [], 3, [
  .ite (.cmp .Gt (.idx (.var 0) (.int 0)) (.int 0)) [.asg (.var 2) (.bin .Mod (.bi .int [(.idx (.var 0) (.int 0))]) (.var 1)), .asg (.idx (.var 0) (.int 0)) (.bin .FloorDiv (.idx (.var 0) (.int 0)) (.var 1)), .ret (.var 2)] [],
  .asg (.idx (.var 0) (.int 1)) (.bin .Mod (.bi .int [(.bin .Add (.bin .Mult (.idx (.var 0) (.int 1)) (.int 48271)) (.int 11))]) (.int 2147483647)),
  .ret (.bin .Mod (.bi .int [(.bin .FloorDiv (.idx (.var 0) (.int 1)) (.int 7))]) (.var 1))]⟩
/- _law_says(0 value, 1 due) -/
def d38 : Def := ⟨2, [], 2, [
  .ret (.and (.isin (.var 0) [.bool]) (.cmp .Eq (.var 0) (.var 1)))]⟩
/- _law_is_whole(0 value) -/
def d39 : Def := ⟨1, [], 1, [
  .ret (.and (.isin (.var 0) [.int]) (.not (.isin (.var 0) [.bool])))]⟩
/- _law_same(0 one, 1 two, 2 k) -/
def d40 : Def := ⟨2, [], 3, [
  .ite (.isin (.var 1) [.tuple]) [.ret (.and (.isin (.var 0) [.tuple]) (.and (.cmp .Eq (.bi .len [(.var 0)]) (.bi .len [(.var 1)])) (.bi .all [(.comp (.call 40 [(.idx (.var 0) (.var 2)), (.idx (.var 1) (.var 2))]) (.var 2) (.rng [(.bi .len [(.var 1)])]) (.bl true) [2])])))] [],
  .ite (.isin (.var 1) [.str]) [.ret (.and (.isin (.var 0) [.str]) (.cmp .Eq (.var 0) (.var 1)))] [],
  .ite (.cmp .Is (.var 1) .non) [.ret (.cmp .Is (.var 0) .non)] [],
  .ret (.and (.call 39 [(.var 0)]) (.cmp .Eq (.var 0) (.var 1)))]⟩
/- _law_result(0 act, 1 given, 2 refused) -/
def d41 : Def := ⟨2, [], 3, [
  .try2 [.ite (.cmp .Eq (.bi .len [(.var 1)]) (.int 1)) [.ret (.tup [(.str "told"), (.callv 0 [(.idx (.var 1) (.int 0))])])] [], .ite (.cmp .Eq (.bi .len [(.var 1)]) (.int 2)) [.ret (.tup [(.str "told"), (.callv 0 [(.idx (.var 1) (.int 0)), (.idx (.var 1) (.int 1))])])] [], .ite (.cmp .Eq (.bi .len [(.var 1)]) (.int 3)) [.ret (.tup [(.str "told"), (.callv 0 [(.idx (.var 1) (.int 0)), (.idx (.var 1) (.int 1)), (.idx (.var 1) (.int 2))])])] [], .ite (.cmp .Eq (.bi .len [(.var 1)]) (.int 4)) [.ret (.tup [(.str "told"), (.callv 0 [(.idx (.var 1) (.int 0)), (.idx (.var 1) (.int 1)), (.idx (.var 1) (.int 2)), (.idx (.var 1) (.int 3))])])] [], .ret (.tup [(.str "told"), (.callv 0 [(.idx (.var 1) (.int 0)), (.idx (.var 1) (.int 1)), (.idx (.var 1) (.int 2)), (.idx (.var 1) (.int 3)), (.idx (.var 1) (.int 4))])])] 1 none [.ret (.tup [(.str "malformed"), .non])] 2 (some 2) [.ret (.tup [(.str "refused"), (.xfld 2 "reason")])]]⟩
/- _law_te_surd(0 a, 1 b, 2 d) -/
def d42 : Def := ⟨3, [], 3, [
  .ret (.mk 4 [(.var 0), (.var 1), (.var 2)])]⟩
/- _law_te_over(0 x, 1 y) -/
def d43 : Def := ⟨2, [], 2, [
  .ret (.omth "over" (.var 0) [(.var 1)])]⟩
/- _law_te_plus(0 x, 1 y) -/
def d44 : Def := ⟨2, [], 2, [
  .ret (.obin .Add (.var 0) (.var 1))]⟩
/- law(0 script, 1 state, 2 d, 3 row, 4 told, 5 gap, 6 due, 7 r, 8 low, 9 found, 10 n, 11 tried, 12 a, 13 b, 14 c, 15 e, 16 x, 17 y, 18 root, 19 one, 20 zero, 21 k, 22 act, 23 given) -/
def d45 : Def := ⟨1, [], 24, [
  .asg (.var 1) (.call 36 [(.var 0)]),
  .asg (.var 2) (.idx (.lst [(.int 1), (.int 2), (.int 3), (.int 5)]) (.call 37 [(.var 1), (.int 4)])),
  .asg (.var 3) (.comp (.mk 3 [(.obin .Sub (.call 37 [(.var 1), (.int 19)]) (.int 9)), (.obin .Add (.int 1) (.call 37 [(.var 1), (.int 4)]))]) (.var 21) (.rng [(.int 4)]) (.bl true) [21]),
  .ite (.ocmp .Eq (.var 2) (.int 1)) [.asg (.tup [(.idx (.var 3) (.int 1)), (.idx (.var 3) (.int 3))]) (.tup [(.mk 3 [(.int 0)]), (.mk 3 [(.int 0)])])] [],
  .asg (.tup [(.var 12), (.var 13), (.var 14), (.var 15)]) (.var 3),
  .asg (.tup [(.var 16), (.var 17), (.var 18)]) (.tup [(.mk 4 [(.var 12), (.var 13), (.var 2)]), (.mk 4 [(.var 14), (.var 15), (.var 2)]), (.mk 3 [(.var 2)])]),
  .ite (.or (.ocmp .NotEq (.obin .Add (.var 16) (.var 17)) (.mk 4 [(.obin .Add (.var 12) (.var 14)), (.obin .Add (.var 13) (.var 15)), (.var 2)])) (.or (.ocmp .NotEq (.obin .Sub (.var 16) (.var 17)) (.mk 4 [(.obin .Sub (.var 12) (.var 14)), (.obin .Sub (.var 13) (.var 15)), (.var 2)])) (.or (.ocmp .NotEq (.obin .Mult (.var 16) (.var 17)) (.mk 4 [(.obin .Add (.obin .Mult (.var 12) (.var 14)) (.obin .Mult (.obin .Mult (.var 13) (.var 15)) (.var 18))), (.obin .Add (.obin .Mult (.var 12) (.var 15)) (.obin .Mult (.var 13) (.var 14))), (.var 2)])) (.ocmp .NotEq (.oneg (.var 16)) (.mk 4 [(.oneg (.var 12)), (.oneg (.var 13)), (.var 2)]))))) [.ret (.bl false)] [],
  .asg (.var 4) (.call 41 [(.fn 43), (.tup [(.var 16), (.var 17)])]),
  .ite (.and (.ocmp .Eq (.omth "sign" (.var 14) []) (.int 0)) (.ocmp .Eq (.omth "sign" (.var 15) []) (.int 0))) [.ite (.ocmp .NotEq (.var 4) (.tup [(.str "refused"), (.str "zero")])) [.ret (.bl false)] []] [.ite (.ocmp .NotEq (.obin .Mult (.idx (.var 4) (.int 1)) (.var 17)) (.var 16)) [.ret (.bl false)] []],
  .asg (.var 5) (.obin .Sub (.obin .Mult (.var 12) (.var 12)) (.obin .Mult (.obin .Mult (.var 13) (.var 13)) (.var 18))),
  .asg (.var 6) (.ite (.or (.ocmp .Eq (.omth "sign" (.var 12) []) (.omth "sign" (.var 13) [])) (.ocmp .Eq (.omth "sign" (.var 13) []) (.int 0))) (.omth "sign" (.var 12) []) (.ite (.ocmp .Eq (.omth "sign" (.var 12) []) (.int 0)) (.omth "sign" (.var 13) []) (.ite (.ocmp .Gt (.omth "sign" (.var 5) []) (.int 0)) (.omth "sign" (.var 12) []) (.omth "sign" (.var 13) [])))),
  .ite (.or (.not (.call 40 [(.omth "sign" (.var 16) []), (.var 6)])) (.or (.ocmp .NotEq (.obin .Add (.omth "sign" (.obin .Sub (.var 16) (.var 17)) []) (.omth "sign" (.obin .Sub (.var 17) (.var 16)) [])) (.int 0)) (.or (.ocmp .Lt (.omth "sign" (.obin .Mult (.var 16) (.var 16)) []) (.int 0)) (.not (.call 38 [(.ocmp .Eq (.var 16) (.var 17)), (.and (.ocmp .Eq (.var 12) (.var 14)) (.ocmp .Eq (.var 13) (.var 15)))]))))) [.ret (.bl false)] [],
  .ite (.or (.not (.call 38 [(.ocmp .Eq (.var 16) (.var 12)), (.bl false)])) (.or (.not (.ocmp .Eq (.var 16) (.mk 4 [(.var 12), (.var 13), (.var 2)]))) (.ocmp .NotEq (.ostr (.var 16)) (.ite (.ocmp .Eq (.omth "sign" (.var 13) []) (.int 0)) (.ostr (.var 12)) (.obin .Add (.obin .Add (.obin .Add (.obin .Add (.ostr (.var 12)) (.ite (.ocmp .Gt (.omth "sign" (.var 13) []) (.int 0)) (.str "+") (.str ""))) (.ostr (.var 13))) (.str "r")) (.ostr (.var 2))))))) [.ret (.bl false)] [],
  .asg (.var 7) (.obin .Add (.int 3) (.call 37 [(.var 1), (.int 4)])),
  .asg (.var 8) (.comp (.call 34 [(.var 10), (.var 7)]) (.var 10) (.rng [(.obin .Add (.obin .Mult (.int 2) (.var 7)) (.int 1))]) (.bl true) [10]),
  .asg (.tup [(.var 19), (.var 20)]) (.tup [(.call 32 [(.int 1), (.call 33 [(.var 7)])]), (.call 32 [(.int 0), (.call 33 [(.var 7)])])]),
  .ite (.or (.ocmp .NotEq (.call 33 [(.var 7)]) (.idx (.lst [(.int 1), (.int 2), (.int 5), (.int 3)]) (.obin .Sub (.var 7) (.int 3)))) (.or (.ocmp .NotEq (.idx (.var 8) (.int 0)) (.var 20)) (.or (.ocmp .NotEq (.idx (.var 8) (.int 1)) (.var 19)) (.or (.ocmp .NotEq (.idx (.var 8) (.var 7)) (.var 20)) (.or (.ocmp .NotEq (.idx (.var 8) (.obin .Mult (.int 2) (.var 7))) (.var 20)) (.ocmp .NotEq (.idx (.var 8) (.obin .Sub (.var 7) (.int 1))) (.var 19))))))) [.ret (.bl false)] [],
  .ite (.or (.bi .any [(.comp (.ocmp .NotEq (.idx (.var 8) (.var 10)) (.idx (.var 8) (.obin .Sub (.var 7) (.var 10)))) (.var 10) (.rng [(.obin .Add (.var 7) (.int 1))]) (.bl true) [10])]) (.bi .any [(.comp (.ocmp .NotEq (.obin .Mult (.idx (.var 8) (.obin .Add (.var 10) (.int 1))) (.idx (.var 8) (.obin .Sub (.var 10) (.int 1)))) (.obin .Sub (.obin .Mult (.idx (.var 8) (.var 10)) (.idx (.var 8) (.var 10))) (.var 19))) (.var 10) (.rng [(.int 1), (.obin .Mult (.int 2) (.var 7))]) (.bl true) [10])])) [.ret (.bl false)] [],
  .ite (.or (.bi .any [(.comp (.ocmp .NotEq (.omth "sign" (.idx (.var 8) (.var 10)) []) (.int 1)) (.var 10) (.rng [(.int 1), (.var 7)]) (.bl true) [10])]) (.bi .any [(.comp (.ocmp .NotEq (.idx (.var 8) (.obin .Add (.var 7) (.var 10))) (.oneg (.idx (.var 8) (.var 10)))) (.var 10) (.rng [(.obin .Add (.var 7) (.int 1))]) (.bl true) [10])])) [.ret (.bl false)] [],
  .asg (.var 9) (.var 19),
  .for (.var 10) (.rng [(.var 7)]) [.ite (.ocmp .NotEq (.call 35 [(.var 10), (.var 7)]) (.var 9)) [.ret (.bl false)] [], .asg (.var 9) (.obin .Mult (.var 9) (.idx (.var 8) (.obin .Add (.var 10) (.int 1))))],
  .asg (.var 11) (.lst [(.tup [(.fn 42), (.tup [(.int 1), (.mk 3 [(.int 0)]), (.int 2)])]), (.tup [(.fn 42), (.tup [(.mk 3 [(.int 1)]), (.mk 3 [(.int 1)]), (.int 1)])]), (.tup [(.fn 42), (.tup [(.mk 3 [(.int 1)]), (.mk 3 [(.int 1)]), (.int 7)])]), (.tup [(.fn 42), (.tup [(.mk 3 [(.int 1)]), (.mk 3 [(.int 0)]), (.bl true)])])]),
  .asg (.var 11) (.obin .Add (.var 11) (.lst [(.tup [(.fn 44), (.tup [(.var 16), (.mk 4 [(.mk 3 [(.int 1)]), (.mk 3 [(.int 0)]), (.ite (.ocmp .NotEq (.var 2) (.int 5)) (.int 5) (.int 2))])])]), (.tup [(.fn 44), (.tup [(.var 16), (.int 1)])]), (.tup [(.fn 34), (.tup [(.int 1), (.int 7)])]), (.tup [(.fn 34), (.tup [(.oneg (.int 1)), (.int 4)])])])),
  .asg (.var 11) (.obin .Add (.var 11) (.lst [(.tup [(.fn 34), (.tup [(.obin .Add (.obin .Mult (.int 2) (.var 7)) (.int 1)), (.var 7)])]), (.tup [(.fn 35), (.tup [(.var 7), (.var 7)])]), (.tup [(.fn 33), (.tup [(.int 2)])]), (.tup [(.fn 43), (.tup [(.var 16), (.var 12)])])])),
  .ret (.ocmp .Eq (.comp (.idx (.call 41 [(.var 22), (.var 23)]) (.int 0)) (.tup [(.var 22), (.var 23)]) (.var 11) (.bl true) [22, 23]) (.obin .Mult (.lst [(.str "malformed")]) (.int 12)))]⟩
def clss : List ClsM := [{ fields := [], init := none, meths := [], up := [0], exc := true },
  { fields := [], init := none, meths := [], up := [1, 0], exc := true },
  { fields := ["reason"], init := none, meths := [], up := [2, 0], exc := true },
  { fields := ["n", "d"], init := some 6, meths := [("__add__", 7), ("__sub__", 8), ("__mul__", 9), ("__neg__", 10), ("__eq__", 11), ("less", 12), ("__str__", 13), ("over", 14), ("times", 15), ("sign", 16), ("is_zero", 17), ("is_whole", 18), ("floor", 19), ("size", 20)], up := [3], exc := false },
  { fields := ["a", "b", "d"], init := some 22, meths := [("__eq__", 23), ("__str__", 24), ("__add__", 25), ("__sub__", 26), ("__mul__", 27), ("__neg__", 28), ("over", 29), ("sign", 30)], up := [4], exc := false }]
def defs : List Def := [d0, d1, d2, d3, d4, d5, d6, d7, d8, d9, d10, d11, d12, d13, d14, d15, d16, d17, d18, d19, d20, d21, d22, d23, d24, d25, d26, d27, d28, d29, d30, d31, d32, d33, d34, d35, d36, d37, d38, d39, d40, d41, d42, d43, d44, d45]
def prog : Prog := { defs := defs, clss := clss, dcs := [[(3, 1), (4, 2), (5, 5), (6, 3)]] }
end Mch.k03

set_option maxHeartbeats 0
/-! ## k03: the text and the machine's program -/
namespace Mch.k03
open PySem PySem.Spec PyProof.Rows L2 Mch
abbrev prg : Program := (PySem.Challenge.rw_tetraroads_k03_whole_numbers_with_a_root).prog
def top (i : Nat) : Stmt := prg.main.body.getD i (.Pass ⟨0, 0, 0, 0⟩)
def clsBody : Stmt → List Stmt
  | .ClassDef _ _ _ b _ _ _ _ _ _ _ => b
  | _ => []
abbrev dd (a : Str × Option Str) (q : Str) (s : Stmt) (l : List He.Dv) : He.DefD := ⟨a, a.2.getD a.1, q, defArgs s, defBody s, defScope s, l, []⟩
abbrev f0 : FS := { d := dd ("_wall", none) "_wall" (top 0) [], ps := ["k"], N := ["k"], ob := true }
abbrev f1 : FS := { d := dd ("Refused", some "__init__") "Refused.__init__" ((clsBody (top 4)).getD 0 (.Pass ⟨0, 0, 0, 0⟩)) [], ps := ["self", "reason"], N := ["self", "reason"], kd := .xin 2 "reason" "Fault" }
abbrev f2 : FS := { d := dd ("is_integer", none) "is_integer" (top 6) [], ps := ["value"], N := ["value"] }
abbrev f3 : FS := { d := dd ("is_count", none) "is_count" (top 7) [], ps := ["value", "low", "high"], N := ["value", "low", "high"] }
abbrev f4 : FS := { d := dd ("check_count", none) "check_count" (top 8) [], ps := ["value", "low", "high"], N := ["value", "low", "high"] }
abbrev f5 : FS := { d := dd ("common", none) "common" (top 9) [], ps := ["a", "b"], N := ["a", "b"] }
abbrev f6 : FS := { d := dd ("Ratio", some "__init__") "Ratio.__init__" ((clsBody (top 11)).getD 0 (.Pass ⟨0, 0, 0, 0⟩)) [.int 1], ps := ["self", "n", "d"], N := ["self", "n", "d", "g"], kd := .ini 3, ob := true }
abbrev f7 : FS := { d := dd ("Ratio", some "__add__") "Ratio.__add__" ((clsBody (top 11)).getD 1 (.Pass ⟨0, 0, 0, 0⟩)) [], ps := ["self", "other"], N := ["self", "other"], ob := true }
abbrev f8 : FS := { d := dd ("Ratio", some "__sub__") "Ratio.__sub__" ((clsBody (top 11)).getD 2 (.Pass ⟨0, 0, 0, 0⟩)) [], ps := ["self", "other"], N := ["self", "other"], ob := true }
abbrev f9 : FS := { d := dd ("Ratio", some "__mul__") "Ratio.__mul__" ((clsBody (top 11)).getD 3 (.Pass ⟨0, 0, 0, 0⟩)) [], ps := ["self", "other"], N := ["self", "other"], ob := true }
abbrev f10 : FS := { d := dd ("Ratio", some "__neg__") "Ratio.__neg__" ((clsBody (top 11)).getD 4 (.Pass ⟨0, 0, 0, 0⟩)) [], ps := ["self"], N := ["self"], ob := true }
abbrev f11 : FS := { d := dd ("Ratio", some "__eq__") "Ratio.__eq__" ((clsBody (top 11)).getD 5 (.Pass ⟨0, 0, 0, 0⟩)) [], ps := ["self", "other"], N := ["self", "other"], ob := true }
abbrev f12 : FS := { d := dd ("Ratio", some "less") "Ratio.less" ((clsBody (top 11)).getD 6 (.Pass ⟨0, 0, 0, 0⟩)) [], ps := ["self", "other"], N := ["self", "other"], ob := true }
abbrev f13 : FS := { d := dd ("Ratio", some "__str__") "Ratio.__str__" ((clsBody (top 11)).getD 7 (.Pass ⟨0, 0, 0, 0⟩)) [], ps := ["self"], N := ["self"], ob := true }
abbrev f14 : FS := { d := dd ("Ratio", some "over") "Ratio.over" ((clsBody (top 11)).getD 8 (.Pass ⟨0, 0, 0, 0⟩)) [], ps := ["self", "other"], N := ["self", "other"], ob := true }
abbrev f15 : FS := { d := dd ("Ratio", some "times") "Ratio.times" ((clsBody (top 11)).getD 9 (.Pass ⟨0, 0, 0, 0⟩)) [], ps := ["self", "k"], N := ["self", "k"], ob := true }
abbrev f16 : FS := { d := dd ("Ratio", some "sign") "Ratio.sign" ((clsBody (top 11)).getD 10 (.Pass ⟨0, 0, 0, 0⟩)) [], ps := ["self"], N := ["self"], ob := true }
abbrev f17 : FS := { d := dd ("Ratio", some "is_zero") "Ratio.is_zero" ((clsBody (top 11)).getD 11 (.Pass ⟨0, 0, 0, 0⟩)) [], ps := ["self"], N := ["self"], ob := true }
abbrev f18 : FS := { d := dd ("Ratio", some "is_whole") "Ratio.is_whole" ((clsBody (top 11)).getD 12 (.Pass ⟨0, 0, 0, 0⟩)) [], ps := ["self"], N := ["self"], ob := true }
abbrev f19 : FS := { d := dd ("Ratio", some "floor") "Ratio.floor" ((clsBody (top 11)).getD 13 (.Pass ⟨0, 0, 0, 0⟩)) [], ps := ["self"], N := ["self"], ob := true }
abbrev f20 : FS := { d := dd ("Ratio", some "size") "Ratio.size" ((clsBody (top 11)).getD 14 (.Pass ⟨0, 0, 0, 0⟩)) [], ps := ["self"], N := ["self"], ob := true }
abbrev f21 : FS := { d := dd ("check_ratio", none) "check_ratio" (top 12) [], ps := ["value"], N := ["value"], ob := true }
abbrev f22 : FS := { d := dd ("Surd", some "__init__") "Surd.__init__" ((clsBody (top 15)).getD 0 (.Pass ⟨0, 0, 0, 0⟩)) [], ps := ["self", "a", "b", "d"], N := ["self", "a", "b", "d"], kd := .ini 4, ob := true }
abbrev f23 : FS := { d := dd ("Surd", some "__eq__") "Surd.__eq__" ((clsBody (top 15)).getD 1 (.Pass ⟨0, 0, 0, 0⟩)) [], ps := ["self", "other"], N := ["self", "other"], ob := true }
abbrev f24 : FS := { d := dd ("Surd", some "__str__") "Surd.__str__" ((clsBody (top 15)).getD 2 (.Pass ⟨0, 0, 0, 0⟩)) [], ps := ["self"], N := ["self", "plus"], ob := true }
abbrev f25 : FS := { d := dd ("Surd", some "__add__") "Surd.__add__" ((clsBody (top 15)).getD 3 (.Pass ⟨0, 0, 0, 0⟩)) [], ps := ["self", "other"], N := ["self", "other"], ob := true }
abbrev f26 : FS := { d := dd ("Surd", some "__sub__") "Surd.__sub__" ((clsBody (top 15)).getD 4 (.Pass ⟨0, 0, 0, 0⟩)) [], ps := ["self", "other"], N := ["self", "other"], ob := true }
abbrev f27 : FS := { d := dd ("Surd", some "__mul__") "Surd.__mul__" ((clsBody (top 15)).getD 5 (.Pass ⟨0, 0, 0, 0⟩)) [], ps := ["self", "other"], N := ["self", "other", "a"], ob := true }
abbrev f28 : FS := { d := dd ("Surd", some "__neg__") "Surd.__neg__" ((clsBody (top 15)).getD 6 (.Pass ⟨0, 0, 0, 0⟩)) [], ps := ["self"], N := ["self"], ob := true }
abbrev f29 : FS := { d := dd ("Surd", some "over") "Surd.over" ((clsBody (top 15)).getD 7 (.Pass ⟨0, 0, 0, 0⟩)) [], ps := ["self", "other"], N := ["self", "other", "low", "turned"], ob := true }
abbrev f30 : FS := { d := dd ("Surd", some "sign") "Surd.sign" ((clsBody (top 15)).getD 8 (.Pass ⟨0, 0, 0, 0⟩)) [], ps := ["self"], N := ["self", "gap", "a", "b"], ob := true }
abbrev f31 : FS := { d := dd ("check_pair", none) "check_pair" (top 16) [], ps := ["one", "two"], N := ["one", "two"], ob := true }
abbrev f32 : FS := { d := dd ("whole_surd", none) "whole_surd" (top 17) [], ps := ["n", "d"], N := ["n", "d"], ob := true }
abbrev f33 : FS := { d := dd ("root_of_level", none) "root_of_level" (top 18) [], ps := ["r"], N := ["r"], ob := true }
abbrev f34 : FS := { d := dd ("turn_number", none) "turn_number" (top 19) [], ps := ["n", "r"], N := ["n", "r", "d", "half", "_", "two", "last", "own"], ob := true }
abbrev f35 : FS := { d := dd ("turn_product", none) "turn_product" (top 20) [], ps := ["n", "r"], N := ["n", "r", "found", "k"], ob := true }
abbrev f36 : FS := { d := dd ("_law_state", none) "_law_state" (top 22) [], ps := ["script"], N := ["script", "seed", "total", "cell"] }
abbrev f37 : FS := { d := dd ("_law_take", none) "_law_take" (top 23) [], ps := ["state", "m"], N := ["state", "m", "value"] }
abbrev f38 : FS := { d := dd ("_law_says", none) "_law_says" (top 24) [], ps := ["value", "due"], N := ["value", "due"] }
abbrev f39 : FS := { d := dd ("_law_is_whole", none) "_law_is_whole" (top 25) [], ps := ["value"], N := ["value"] }
abbrev f40 : FS := { d := dd ("_law_same", none) "_law_same" (top 26) [], ps := ["one", "two"], N := ["one", "two", "k"] }
abbrev f41 : FS := { d := dd ("_law_result", none) "_law_result" (top 27) [], ps := ["act", "given"], N := ["act", "given", "refused"] }
abbrev f42 : FS := { d := dd ("_law_te_surd", none) "_law_te_surd" (top 28) [], ps := ["a", "b", "d"], N := ["a", "b", "d"], ob := true }
abbrev f43 : FS := { d := dd ("_law_te_over", none) "_law_te_over" (top 29) [], ps := ["x", "y"], N := ["x", "y"], ob := true }
abbrev f44 : FS := { d := dd ("_law_te_plus", none) "_law_te_plus" (top 30) [], ps := ["x", "y"], N := ["x", "y"], ob := true }
abbrev f45 : FS := { d := dd ("law", none) "law" (top 31) [], ps := ["script"], N := ["script", "state", "d", "row", "told", "gap", "due", "r", "low", "found", "n", "tried", "a", "b", "c", "e", "x", "y", "root", "one", "zero", "k", "act", "given"], ob := true }
abbrev fs : List FS := [f0, f1, f2, f3, f4, f5, f6, f7, f8, f9, f10, f11, f12, f13, f14, f15, f16, f17, f18, f19, f20, f21, f22, f23, f24, f25, f26, f27, f28, f29, f30, f31, f32, f33, f34, f35, f36, f37, f38, f39, f40, f41, f42, f43, f44, f45]
abbrev clsN : List Str := ["Fault", "Malformed", "Refused", "Ratio", "Surd"]
abbrev blts : List Str := ["abs", "len", "all", "any", "int", "str", "tuple", "range", "isinstance", "bool", "ValueError"]
abbrev Sp : Txt' := { fs := fs, cls := clsN, blts := blts, P := prog, ics := [], dcs := ["ROOTS"] }
theorem b0 : BindP f0 := bind0 rfl rfl fun _ _ _ _ _ _ us hl => match us, hl with | [_], _ => rfl
theorem c0 : CmpP Sp f0 d0 := ⟨fun _ => by kernel_rfl, (fun _ _ _ z => by cases z), rfl, rfl, rfl, rfl, by kernel_rfl⟩
theorem b1 : BindP f1 := bind0 rfl rfl fun _ _ _ _ _ _ us hl => match us, hl with | [_, _], _ => rfl
theorem c1 : CmpP Sp f1 d1 := ⟨(fun z => by cases z), (fun _ _ _ z => by cases z; exact ⟨by kernel_rfl, by kernel_rfl, by kernel_rfl, by kernel_rfl, rfl, rfl, rfl⟩), rfl, rfl, rfl, rfl, by kernel_rfl⟩
theorem b2 : BindP f2 := bind0 rfl rfl fun _ _ _ _ _ _ us hl => match us, hl with | [_], _ => rfl
theorem c2 : CmpP Sp f2 d2 := ⟨fun _ => by kernel_rfl, (fun _ _ _ z => by cases z), rfl, rfl, rfl, rfl, by kernel_rfl⟩
theorem b3 : BindP f3 := bind0 rfl rfl fun _ _ _ _ _ _ us hl => match us, hl with | [_, _, _], _ => rfl
theorem c3 : CmpP Sp f3 d3 := ⟨fun _ => by kernel_rfl, (fun _ _ _ z => by cases z), rfl, rfl, rfl, rfl, by kernel_rfl⟩
theorem b4 : BindP f4 := bind0 rfl rfl fun _ _ _ _ _ _ us hl => match us, hl with | [_, _, _], _ => rfl
theorem c4 : CmpP Sp f4 d4 := ⟨fun _ => by kernel_rfl, (fun _ _ _ z => by cases z), rfl, rfl, rfl, rfl, by kernel_rfl⟩
theorem b5 : BindP f5 := bind0 rfl rfl fun _ _ _ _ _ _ us hl => match us, hl with | [_, _], _ => rfl
theorem c5 : CmpP Sp f5 d5 := ⟨fun _ => by kernel_rfl, (fun _ _ _ z => by cases z), rfl, rfl, rfl, rfl, by kernel_rfl⟩
theorem b6 : BindP f6 := bindD rfl (fun z => by cases z) (by decide) fun j hj T kV doc pm an cdv ct us its hu hi => by
  have hj : j = 0 ∨ j = 1 := by have hj : j ≤ 1 := hj; omega
  rcases hj with rfl | rfl
  · exact (match us, hu, its, hi with | [_, _], _, [_], _ => ⟨_, rfl, rfl⟩)
  · exact (match us, hu, its, hi with | [_, _, _], _, [_], _ => ⟨_, rfl, rfl⟩)
theorem c6 : CmpP Sp f6 d6 := ⟨fun _ => by kernel_rfl, (fun _ _ _ z => by cases z), rfl, rfl, rfl, rfl, by kernel_rfl⟩
theorem b7 : BindP f7 := bind0 rfl rfl fun _ _ _ _ _ _ us hl => match us, hl with | [_, _], _ => rfl
theorem c7 : CmpP Sp f7 d7 := ⟨fun _ => by kernel_rfl, (fun _ _ _ z => by cases z), rfl, rfl, rfl, rfl, by kernel_rfl⟩
theorem b8 : BindP f8 := bind0 rfl rfl fun _ _ _ _ _ _ us hl => match us, hl with | [_, _], _ => rfl
theorem c8 : CmpP Sp f8 d8 := ⟨fun _ => by kernel_rfl, (fun _ _ _ z => by cases z), rfl, rfl, rfl, rfl, by kernel_rfl⟩
theorem b9 : BindP f9 := bind0 rfl rfl fun _ _ _ _ _ _ us hl => match us, hl with | [_, _], _ => rfl
theorem c9 : CmpP Sp f9 d9 := ⟨fun _ => by kernel_rfl, (fun _ _ _ z => by cases z), rfl, rfl, rfl, rfl, by kernel_rfl⟩
theorem b10 : BindP f10 := bind0 rfl rfl fun _ _ _ _ _ _ us hl => match us, hl with | [_], _ => rfl
theorem c10 : CmpP Sp f10 d10 := ⟨fun _ => by kernel_rfl, (fun _ _ _ z => by cases z), rfl, rfl, rfl, rfl, by kernel_rfl⟩
theorem b11 : BindP f11 := bind0 rfl rfl fun _ _ _ _ _ _ us hl => match us, hl with | [_, _], _ => rfl
theorem c11 : CmpP Sp f11 d11 := ⟨fun _ => by kernel_rfl, (fun _ _ _ z => by cases z), rfl, rfl, rfl, rfl, by kernel_rfl⟩
theorem b12 : BindP f12 := bind0 rfl rfl fun _ _ _ _ _ _ us hl => match us, hl with | [_, _], _ => rfl
theorem c12 : CmpP Sp f12 d12 := ⟨fun _ => by kernel_rfl, (fun _ _ _ z => by cases z), rfl, rfl, rfl, rfl, by kernel_rfl⟩
theorem b13 : BindP f13 := bind0 rfl rfl fun _ _ _ _ _ _ us hl => match us, hl with | [_], _ => rfl
theorem c13 : CmpP Sp f13 d13 := ⟨fun _ => by kernel_rfl, (fun _ _ _ z => by cases z), rfl, rfl, rfl, rfl, by kernel_rfl⟩
theorem b14 : BindP f14 := bind0 rfl rfl fun _ _ _ _ _ _ us hl => match us, hl with | [_, _], _ => rfl
theorem c14 : CmpP Sp f14 d14 := ⟨fun _ => by kernel_rfl, (fun _ _ _ z => by cases z), rfl, rfl, rfl, rfl, by kernel_rfl⟩
theorem b15 : BindP f15 := bind0 rfl rfl fun _ _ _ _ _ _ us hl => match us, hl with | [_, _], _ => rfl
theorem c15 : CmpP Sp f15 d15 := ⟨fun _ => by kernel_rfl, (fun _ _ _ z => by cases z), rfl, rfl, rfl, rfl, by kernel_rfl⟩
theorem b16 : BindP f16 := bind0 rfl rfl fun _ _ _ _ _ _ us hl => match us, hl with | [_], _ => rfl
theorem c16 : CmpP Sp f16 d16 := ⟨fun _ => by kernel_rfl, (fun _ _ _ z => by cases z), rfl, rfl, rfl, rfl, by kernel_rfl⟩
theorem b17 : BindP f17 := bind0 rfl rfl fun _ _ _ _ _ _ us hl => match us, hl with | [_], _ => rfl
theorem c17 : CmpP Sp f17 d17 := ⟨fun _ => by kernel_rfl, (fun _ _ _ z => by cases z), rfl, rfl, rfl, rfl, by kernel_rfl⟩
theorem b18 : BindP f18 := bind0 rfl rfl fun _ _ _ _ _ _ us hl => match us, hl with | [_], _ => rfl
theorem c18 : CmpP Sp f18 d18 := ⟨fun _ => by kernel_rfl, (fun _ _ _ z => by cases z), rfl, rfl, rfl, rfl, by kernel_rfl⟩
theorem b19 : BindP f19 := bind0 rfl rfl fun _ _ _ _ _ _ us hl => match us, hl with | [_], _ => rfl
theorem c19 : CmpP Sp f19 d19 := ⟨fun _ => by kernel_rfl, (fun _ _ _ z => by cases z), rfl, rfl, rfl, rfl, by kernel_rfl⟩
theorem b20 : BindP f20 := bind0 rfl rfl fun _ _ _ _ _ _ us hl => match us, hl with | [_], _ => rfl
theorem c20 : CmpP Sp f20 d20 := ⟨fun _ => by kernel_rfl, (fun _ _ _ z => by cases z), rfl, rfl, rfl, rfl, by kernel_rfl⟩
theorem b21 : BindP f21 := bind0 rfl rfl fun _ _ _ _ _ _ us hl => match us, hl with | [_], _ => rfl
theorem c21 : CmpP Sp f21 d21 := ⟨fun _ => by kernel_rfl, (fun _ _ _ z => by cases z), rfl, rfl, rfl, rfl, by kernel_rfl⟩
theorem b22 : BindP f22 := bind0 rfl rfl fun _ _ _ _ _ _ us hl => match us, hl with | [_, _, _, _], _ => rfl
theorem c22 : CmpP Sp f22 d22 := ⟨fun _ => by kernel_rfl, (fun _ _ _ z => by cases z), rfl, rfl, rfl, rfl, by kernel_rfl⟩
theorem b23 : BindP f23 := bind0 rfl rfl fun _ _ _ _ _ _ us hl => match us, hl with | [_, _], _ => rfl
theorem c23 : CmpP Sp f23 d23 := ⟨fun _ => by kernel_rfl, (fun _ _ _ z => by cases z), rfl, rfl, rfl, rfl, by kernel_rfl⟩
theorem b24 : BindP f24 := bind0 rfl rfl fun _ _ _ _ _ _ us hl => match us, hl with | [_], _ => rfl
theorem c24 : CmpP Sp f24 d24 := ⟨fun _ => by kernel_rfl, (fun _ _ _ z => by cases z), rfl, rfl, rfl, rfl, by kernel_rfl⟩
theorem b25 : BindP f25 := bind0 rfl rfl fun _ _ _ _ _ _ us hl => match us, hl with | [_, _], _ => rfl
theorem c25 : CmpP Sp f25 d25 := ⟨fun _ => by kernel_rfl, (fun _ _ _ z => by cases z), rfl, rfl, rfl, rfl, by kernel_rfl⟩
theorem b26 : BindP f26 := bind0 rfl rfl fun _ _ _ _ _ _ us hl => match us, hl with | [_, _], _ => rfl
theorem c26 : CmpP Sp f26 d26 := ⟨fun _ => by kernel_rfl, (fun _ _ _ z => by cases z), rfl, rfl, rfl, rfl, by kernel_rfl⟩
theorem b27 : BindP f27 := bind0 rfl rfl fun _ _ _ _ _ _ us hl => match us, hl with | [_, _], _ => rfl
theorem c27 : CmpP Sp f27 d27 := ⟨fun _ => by kernel_rfl, (fun _ _ _ z => by cases z), rfl, rfl, rfl, rfl, by kernel_rfl⟩
theorem b28 : BindP f28 := bind0 rfl rfl fun _ _ _ _ _ _ us hl => match us, hl with | [_], _ => rfl
theorem c28 : CmpP Sp f28 d28 := ⟨fun _ => by kernel_rfl, (fun _ _ _ z => by cases z), rfl, rfl, rfl, rfl, by kernel_rfl⟩
theorem b29 : BindP f29 := bind0 rfl rfl fun _ _ _ _ _ _ us hl => match us, hl with | [_, _], _ => rfl
theorem c29 : CmpP Sp f29 d29 := ⟨fun _ => by kernel_rfl, (fun _ _ _ z => by cases z), rfl, rfl, rfl, rfl, by kernel_rfl⟩
theorem b30 : BindP f30 := bind0 rfl rfl fun _ _ _ _ _ _ us hl => match us, hl with | [_], _ => rfl
theorem c30 : CmpP Sp f30 d30 := ⟨fun _ => by kernel_rfl, (fun _ _ _ z => by cases z), rfl, rfl, rfl, rfl, by kernel_rfl⟩
theorem b31 : BindP f31 := bind0 rfl rfl fun _ _ _ _ _ _ us hl => match us, hl with | [_, _], _ => rfl
theorem c31 : CmpP Sp f31 d31 := ⟨fun _ => by kernel_rfl, (fun _ _ _ z => by cases z), rfl, rfl, rfl, rfl, by kernel_rfl⟩
theorem b32 : BindP f32 := bind0 rfl rfl fun _ _ _ _ _ _ us hl => match us, hl with | [_, _], _ => rfl
theorem c32 : CmpP Sp f32 d32 := ⟨fun _ => by kernel_rfl, (fun _ _ _ z => by cases z), rfl, rfl, rfl, rfl, by kernel_rfl⟩
theorem b33 : BindP f33 := bind0 rfl rfl fun _ _ _ _ _ _ us hl => match us, hl with | [_], _ => rfl
theorem c33 : CmpP Sp f33 d33 := ⟨fun _ => by kernel_rfl, (fun _ _ _ z => by cases z), rfl, rfl, rfl, rfl, by kernel_rfl⟩
theorem b34 : BindP f34 := bind0 rfl rfl fun _ _ _ _ _ _ us hl => match us, hl with | [_, _], _ => rfl
theorem c34 : CmpP Sp f34 d34 := ⟨fun _ => by kernel_rfl, (fun _ _ _ z => by cases z), rfl, rfl, rfl, rfl, by kernel_rfl⟩
theorem b35 : BindP f35 := bind0 rfl rfl fun _ _ _ _ _ _ us hl => match us, hl with | [_, _], _ => rfl
theorem c35 : CmpP Sp f35 d35 := ⟨fun _ => by kernel_rfl, (fun _ _ _ z => by cases z), rfl, rfl, rfl, rfl, by kernel_rfl⟩
theorem b36 : BindP f36 := bind0 rfl rfl fun _ _ _ _ _ _ us hl => match us, hl with | [_], _ => rfl
theorem c36 : CmpP Sp f36 d36 := ⟨fun _ => by kernel_rfl, (fun _ _ _ z => by cases z), rfl, rfl, rfl, rfl, by kernel_rfl⟩
theorem b37 : BindP f37 := bind0 rfl rfl fun _ _ _ _ _ _ us hl => match us, hl with | [_, _], _ => rfl
theorem c37 : CmpP Sp f37 d37 := ⟨fun _ => by kernel_rfl, (fun _ _ _ z => by cases z), rfl, rfl, rfl, rfl, by kernel_rfl⟩
theorem b38 : BindP f38 := bind0 rfl rfl fun _ _ _ _ _ _ us hl => match us, hl with | [_, _], _ => rfl
theorem c38 : CmpP Sp f38 d38 := ⟨fun _ => by kernel_rfl, (fun _ _ _ z => by cases z), rfl, rfl, rfl, rfl, by kernel_rfl⟩
theorem b39 : BindP f39 := bind0 rfl rfl fun _ _ _ _ _ _ us hl => match us, hl with | [_], _ => rfl
theorem c39 : CmpP Sp f39 d39 := ⟨fun _ => by kernel_rfl, (fun _ _ _ z => by cases z), rfl, rfl, rfl, rfl, by kernel_rfl⟩
theorem b40 : BindP f40 := bind0 rfl rfl fun _ _ _ _ _ _ us hl => match us, hl with | [_, _], _ => rfl
theorem c40 : CmpP Sp f40 d40 := ⟨fun _ => by kernel_rfl, (fun _ _ _ z => by cases z), rfl, rfl, rfl, rfl, by kernel_rfl⟩
theorem b41 : BindP f41 := bind0 rfl rfl fun _ _ _ _ _ _ us hl => match us, hl with | [_, _], _ => rfl
theorem c41 : CmpP Sp f41 d41 := ⟨fun _ => by kernel_rfl, (fun _ _ _ z => by cases z), rfl, rfl, rfl, rfl, by kernel_rfl⟩
theorem b42 : BindP f42 := bind0 rfl rfl fun _ _ _ _ _ _ us hl => match us, hl with | [_, _, _], _ => rfl
theorem c42 : CmpP Sp f42 d42 := ⟨fun _ => by kernel_rfl, (fun _ _ _ z => by cases z), rfl, rfl, rfl, rfl, by kernel_rfl⟩
theorem b43 : BindP f43 := bind0 rfl rfl fun _ _ _ _ _ _ us hl => match us, hl with | [_, _], _ => rfl
theorem c43 : CmpP Sp f43 d43 := ⟨fun _ => by kernel_rfl, (fun _ _ _ z => by cases z), rfl, rfl, rfl, rfl, by kernel_rfl⟩
theorem b44 : BindP f44 := bind0 rfl rfl fun _ _ _ _ _ _ us hl => match us, hl with | [_, _], _ => rfl
theorem c44 : CmpP Sp f44 d44 := ⟨fun _ => by kernel_rfl, (fun _ _ _ z => by cases z), rfl, rfl, rfl, rfl, by kernel_rfl⟩
theorem b45 : BindP f45 := bind0 rfl rfl fun _ _ _ _ _ _ us hl => match us, hl with | [_], _ => rfl
theorem c45 : CmpP Sp f45 d45 := ⟨fun _ => by kernel_rfl, (fun _ _ _ z => by cases z), rfl, rfl, rfl, rfl, by kernel_rfl⟩
theorem allC : AllC Sp fs defs := ⟨c0, c1, c2, c3, c4, c5, c6, c7, c8, c9, c10, c11, c12, c13, c14, c15, c16, c17, c18, c19, c20, c21, c22, c23, c24, c25, c26, c27, c28, c29, c30, c31, c32, c33, c34, c35, c36, c37, c38, c39, c40, c41, c42, c43, c44, c45, trivial⟩
theorem allB : AllB fs := ⟨b0, b1, b2, b3, b4, b5, b6, b7, b8, b9, b10, b11, b12, b13, b14, b15, b16, b17, b18, b19, b20, b21, b22, b23, b24, b25, b26, b27, b28, b29, b30, b31, b32, b33, b34, b35, b36, b37, b38, b39, b40, b41, b42, b43, b44, b45, trivial⟩
end Mch.k03

set_option maxHeartbeats 0
/-! ## k03: the head -/
namespace Mch.k03
open PySem PySem.Spec PyProof.Rows L2 Mch
abbrev RW : PySem.W.OpenLaw := PySem.Challenge.rw_tetraroads_k03_whole_numbers_with_a_root
abbrev RR : PySem.W.OpenRow := PySem.W.OpenLaw.row RW
abbrev hk : PySem.W.Hook := hookM 5 Sp
def obH (s : PySem.W.SharedT) : He.AlD := obsMG 5 Sp (HandSHeadRun.getT s)
theorem obH_eq (s : PySem.W.SharedT) : obH s = hk.obs s.abs := obsMG_eq (HandSHeadRun.getT_eq s)
theorem headRunB (w : World) (b : Bool) : HandSHeadRun.RunEq RR (PySem.W.view RR.prog [31]) hk obH 4000 ["_wall", "Fault", "Malformed", "Refused", "is_integer", "is_count", "check_count", "common", "Ratio", "check_ratio", "ROOTS", "Surd", "check_pair", "whole_surd", "root_of_level", "turn_number", "turn_product", "_law_state", "_law_take", "_law_says", "_law_is_whole", "_law_same", "_law_result", "_law_te_surd", "_law_te_over", "_law_te_plus"] (setF w b) := by
  intro os
  cases b
  · kernel_rfl
  · kernel_rfl
theorem headRun (w : World) : HandSHeadRun.RunEq RR (PySem.W.view RR.prog [31]) hk obH 4000 ["_wall", "Fault", "Malformed", "Refused", "is_integer", "is_count", "check_count", "common", "Ratio", "check_ratio", "ROOTS", "Surd", "check_pair", "whole_surd", "root_of_level", "turn_number", "turn_product", "_law_state", "_law_take", "_law_says", "_law_is_whole", "_law_same", "_law_result", "_law_te_surd", "_law_te_over", "_law_te_plus"] w := by
  have := headRunB w (w.params.followText "special-get-raises")
  rw [setF_eq w] at this
  exact this
end Mch.k03

set_option maxHeartbeats 0
/-! ## k03: the law, if the machine's run gives True -/
open PySem PySem.W PySem.Calls PyProof.Rows
theorem Mch.k03.law_if (run : ∀ ns : List Int, ns.length ≤ 63 → (∀ z ∈ ns, Builtin.Int.intBits z ≤ 1048576) → ∃ μ, (Mch.tabD Mch.k03.prog 100000 40).call 45 [.ref 0] [.frz (ns.map Mch.MV.int)] = .ok (.bl true) μ) : PySem.Challenge.rw_tetraroads_k03_whole_numbers_with_a_root.Holds := by
  w_on; o_law
  refine HandSHeadRun.head_any (r := OpenLaw.row PySem.Challenge.rw_tetraroads_k03_whole_numbers_with_a_root) (q := view (OpenLaw.row PySem.Challenge.rw_tetraroads_k03_whole_numbers_with_a_root).prog [31]) (H := Mch.k03.hk) (ob := Mch.k03.obH) (M := 4000) (loose := ["_wall", "Fault", "Malformed", "Refused", "is_integer", "is_count", "check_count", "common", "Ratio", "check_ratio", "ROOTS", "Surd", "check_pair", "whole_surd", "root_of_level", "turn_number", "turn_product", "_law_state", "_law_take", "_law_says", "_law_is_whole", "_law_same", "_law_result", "_law_te_surd", "_law_te_over", "_law_te_plus"]) (d := HandSHeadRun.topDef (OpenLaw.row PySem.Challenge.rw_tetraroads_k03_whole_numbers_with_a_root).prog 31) (kwd := []) Mch.k03.obH_eq
    (by kernel_rfl) (fun s => by kernel_rfl) Mch.k03.headRun (by kernel_rfl) (by kernel_rfl) (by kernel_rfl) (by rfl) (by first | assumption | decide +kernel) (by decide +kernel) ⟨rfl, rfl, rfl, rfl, rfl, by decide +kernel⟩ ?hw ?hc
  case hw => w_witness2
  case hc =>
    exact Mch.walk_ofM (S := Mch.k03.Sp) (l := PySem.Challenge.rw_tetraroads_k03_whole_numbers_with_a_root) (n := 63) (m := 5) (k := 40) (N := 100000) (li := 45) (x := "script") (F := Mch.k03.f45) rfl (by decide) (by kernel_rfl) ⟨rfl, by decide, by decide⟩ rfl rfl (by kernel_rfl) rfl rfl
      (fun K fd f FD s u => FD.bindsA (ps := ["script"]) (fun _ _ _ _ _ _ us hl => match us, hl with | [_], _ => rfl) s [u] rfl) Mch.k03.allC Mch.k03.allB run

/-! ## Running the machine: what an end gives -/
namespace Mch
open PySem
/-- the run ends well, so -/
def R.To {α : Type} (r : R α) (Q : α → Mem → Prop) : Prop := match r with
  | .ok a μ => Q a μ
  | _ => False
def RS.To (r : RS) (Q : Fl → Mem → Prop) : Prop := match r with
  | .ok f μ => Q f μ
  | _ => False
section
variable {α β : Type} {r : R α} {s : RS} {Q Q' : α → Mem → Prop} {P P' : Fl → Mem → Prop}
theorem R.To.imp (h : r.To Q) (f : ∀ a μ, Q a μ → Q' a μ) : r.To Q' := by
  cases r with
  | ok a μ => exact f a μ h
  | exc x μ => exact h
  | no => exact h
theorem RS.To.imp (h : s.To P) (f : ∀ a μ, P a μ → P' a μ) : s.To P' := by
  cases s with
  | ok a μ => exact f a μ h
  | exc x σ μ => exact h
  | no => exact h
theorem R.To.bind {f : α → Mem → R β} {Q : β → Mem → Prop} (h : r.To fun a μ => (f a μ).To Q) : (r.bind f).To Q := by
  cases r with
  | ok a μ => exact h
  | exc x μ => exact h
  | no => exact h
theorem R.To.stm {σ : Env} {f : α → Mem → RS} (h : r.To fun a μ => (f a μ).To P) : (r.stm σ f).To P := by
  cases r with
  | ok a μ => exact h
  | exc x μ => exact h
  | no => exact h
/-- behind a statement -/
def goT (P : Fl → Mem → Prop) (k : Env → Mem → RS) : Fl → Mem → Prop
  | .next σ, μ => (k σ μ).To P
  | f, μ => P f μ
theorem RS.To.go {k : Env → Mem → RS} (h : s.To (goT P k)) : (s.go k).To P := by
  cases s with
  | ok f μ => cases f <;> exact h
  | exc x σ μ => exact h
  | no => exact h
theorem R.To.eq (h : r.To Q) : ∃ a μ, r = .ok a μ ∧ Q a μ := by
  cases r with
  | ok a μ => exact ⟨a, μ, rfl, h⟩
  | exc x μ => exact h.elim
  | no => exact h.elim
theorem RS.To.eq (h : s.To P) : ∃ a μ, s = .ok a μ ∧ P a μ := by
  cases s with
  | ok a μ => exact ⟨a, μ, rfl, h⟩
  | exc x σ μ => exact h.elim
  | no => exact h.elim
end
/-! ### memories -/
/-- μ' has what μ has, but for the cells of e -/
def Grow (e : List Nat) (μ μ' : Mem) : Prop := μ.length ≤ μ'.length ∧ ∀ j, j < μ.length → j ∉ e → μ'[j]? = μ[j]?
theorem Grow.refl (e : List Nat) (μ : Mem) : Grow e μ μ := ⟨Nat.le_refl _, fun _ _ _ => rfl⟩
theorem Grow.trans {e : List Nat} {μ μ1 μ2 : Mem} (a : Grow e μ μ1) (b : Grow e μ1 μ2) : Grow e μ μ2 :=
  ⟨Nat.le_trans a.1 b.1, fun j h n => (b.2 j (Nat.lt_of_lt_of_le h a.1) n).trans (a.2 j h n)⟩
theorem Grow.weak {e e' : List Nat} {μ μ1 : Mem} (a : Grow e μ μ1) (h : ∀ j ∈ e, j ∈ e') : Grow e' μ μ1 := ⟨a.1, fun j l n => a.2 j l fun m => n (h j m)⟩
theorem Grow.app (e : List Nat) (μ x : Mem) : Grow e μ (μ ++ x) := ⟨by simp, fun j h _ => List.getElem?_append_left h⟩
theorem Grow.get {e : List Nat} {μ μ1 : Mem} (a : Grow e μ μ1) {i : Nat} {c : Cell} (h : μ[i]? = some c) (n : i ∉ e) : μ1[i]? = some c := by
  rw [a.2 i (List.getElem?_eq_some_iff.mp h).1 n]
  exact h
theorem Grow.lst {e : List Nat} {μ μ1 : Mem} (a : Grow e μ μ1) {i : Nat} {xs : List MV} (h : lstAt μ i = some xs) (n : i ∉ e) : lstAt μ1 i = some xs := by
  have hi : i < μ.length := by
    unfold lstAt at h
    cases q : μ[i]? with
    | none => rw [q] at h; cases h
    | some c => exact (List.getElem?_eq_some_iff.mp q).1
  unfold lstAt at h ⊢
  rw [a.2 i hi n]
  exact h
theorem lstAt_new {μ : Mem} {xs : List MV} : lstAt (μ ++ [.lst xs]) μ.length = some xs := by
  unfold lstAt
  rw [List.getElem?_append_right (Nat.le_refl _), Nat.sub_self]
  rfl
theorem get_new {μ : Mem} {c : Cell} : (μ ++ [c])[μ.length]? = some c := by
  rw [List.getElem?_append_right (Nat.le_refl _), Nat.sub_self]
  rfl
theorem lstAt_lt {μ : Mem} {i : Nat} {xs : List MV} (h : lstAt μ i = some xs) : i < μ.length := by
  unfold lstAt at h
  cases q : μ[i]? with
  | none => rw [q] at h; cases h
  | some c => exact (List.getElem?_eq_some_iff.mp q).1
/-! ### loops -/
/-- behind a turn of a loop -/
def turnT (P : Fl → Mem → Prop) (I : Env → Mem → Prop) : Fl → Mem → Prop
  | .next σ, μ => I σ μ
  | .cnt σ, μ => I σ μ
  | .brk σ, μ => P (.next σ) μ
  | .ret v, μ => P (.ret v) μ
theorem forL_to {J : MV} {xs : List MV} {g : MV → Env → Option Env} {b : Env → Mem → RS} {P : Fl → Mem → Prop} (I : Nat → Env → Mem → Prop) (hit : ∀ i σ μ, I i σ μ → nth μ J i = some xs[i]?)
    (step : ∀ i x σ μ, xs[i]? = some x → I i σ μ → ∃ σ1, g x σ = some σ1 ∧ (b σ1 μ).To (turnT P (I (i + 1)))) (fin : ∀ σ μ, I xs.length σ μ → P (.next σ) μ) :
    ∀ (n i : Nat) (σ : Env) (μ : Mem), i ≤ xs.length → xs.length < n + i → I i σ μ → (forL J g b n i σ μ).To P
  | 0, i, σ, μ, h1, h2, _ => by omega
  | n + 1, i, σ, μ, h1, h2, hI => by
    simp only [forL, hit i σ μ hI]
    by_cases hi : i < xs.length
    · have hx : xs[i]? = some xs[i] := List.getElem?_eq_getElem hi
      obtain ⟨σ1, e1, hb⟩ := step i xs[i] σ μ hx hI
      simp only [hx, e1]
      revert hb
      cases b σ1 μ with
      | no => exact fun h => h.elim
      | exc x σ μ => exact fun h => h.elim
      | ok f μ2 => cases f with
        | next σ2 => exact fun h => forL_to I hit step fin n (i + 1) σ2 μ2 hi (by omega) h
        | cnt σ2 => exact fun h => forL_to I hit step fin n (i + 1) σ2 μ2 hi (by omega) h
        | brk σ2 => exact fun h => h
        | ret v => exact fun h => h
    · have e : i = xs.length := by omega
      subst e
      rw [List.getElem?_eq_none (Nat.le_refl _)]
      exact fin σ μ hI
theorem whileL_to {c : Env → Mem → R Bool} {b : Env → Mem → RS} {P : Fl → Mem → Prop} (I : Nat → Env → Mem → Prop)
    (step : ∀ m σ μ, I m σ μ → (c σ μ).To fun k μ' => if k = true then (∃ m', m = m' + 1 ∧ (b σ μ').To (turnT P (I m'))) else P (.next σ) μ') :
    ∀ (n m : Nat) (σ : Env) (μ : Mem), m < n → I m σ μ → (whileL c b n σ μ).To P
  | 0, m, σ, μ, h, _ => by omega
  | n + 1, m, σ, μ, h, hI => by
    simp only [whileL]
    refine R.To.stm ((step m σ μ hI).imp fun k μ' hk => ?_)
    cases k with
    | false =>
      rw [if_neg Bool.false_ne_true] at hk ⊢
      exact hk
    | true =>
      rw [if_pos rfl] at hk ⊢
      obtain ⟨m', rfl, hb⟩ := hk
      revert hb
      cases b σ μ' with
      | no => exact fun h => h.elim
      | exc x σ μ => exact fun h => h.elim
      | ok f μ2 => cases f with
        | next σ2 => exact fun h => whileL_to I step n m' σ2 μ2 (by omega) h
        | cnt σ2 => exact fun h => whileL_to I step n m' σ2 μ2 (by omega) h
        | brk σ2 => exact fun h => h
        | ret v => exact fun h => h
theorem compL_to {J : MV} {xs : List MV} {body : List MV → MV → Mem → R (List MV)} {Q : List MV → Mem → Prop} (I : Nat → List MV → Mem → Prop) (hit : ∀ i acc μ, I i acc μ → nth μ J i = some xs[i]?)
    (step : ∀ i x acc μ, xs[i]? = some x → I i acc μ → (body acc x μ).To (I (i + 1))) (fin : ∀ acc μ, I xs.length acc μ → Q acc μ) :
    ∀ (n i : Nat) (acc : List MV) (μ : Mem), i ≤ xs.length → xs.length < n + i → I i acc μ → (compL J body n i acc μ).To Q
  | 0, i, acc, μ, h1, h2, _ => by omega
  | n + 1, i, acc, μ, h1, h2, hI => by
    simp only [compL, hit i acc μ hI]
    by_cases hi : i < xs.length
    · have hx : xs[i]? = some xs[i] := List.getElem?_eq_getElem hi
      have hb := step i xs[i] acc μ hx hI
      simp only [hx]
      exact R.To.bind (hb.imp fun acc' μ' h => compL_to I hit step fin n (i + 1) acc' μ' hi (by omega) h)
    · have e : i = xs.length := by omega
      subst e
      rw [List.getElem?_eq_none (Nat.le_refl _)]
      exact fin acc μ hI
/-- a range's ints -/
def rngL (lo : Int) (n : Nat) (st : Int) : List MV := (List.range n).map fun (i : Nat) => .int (lo + i * st)
@[simp] theorem rngL_len {lo : Int} {n : Nat} {st : Int} : (rngL lo n st).length = n := by simp [rngL]
theorem mem_rngL {lo : Int} {n : Nat} {x : MV} (h : x ∈ rngL lo n 1) : ∃ k : Int, x = .int k ∧ lo ≤ k ∧ k < lo + n := by
  obtain ⟨i, h1, rfl⟩ := List.mem_map.mp h
  have := List.mem_range.mp h1
  exact ⟨_, rfl, by omega, by omega⟩
/-- what is walked: its items -/
def items (μ : Mem) : MV → Option (List MV)
  | .tup xs => some xs
  | .ref a => lstAt μ a
  | .rng lo n st => some (rngL lo n st)
  | _ => none
theorem nth_items {μ : Mem} {J : MV} {xs : List MV} (h : items μ J = some xs) (i : Nat) : nth μ J i = some xs[i]? := by
  cases J <;> simp only [items, reduceCtorEq, Option.some.injEq] at h
  · subst h; simp only [nth]
  · simp only [nth, h, Option.map_some]
  · subst h
    rename_i lo n st
    simp only [nth, rngL, List.getElem?_map]
    by_cases hi : i < n
    · rw [if_pos hi, List.getElem?_range hi]; rfl
    · rw [if_neg hi, List.getElem?_eq_none (by simpa using hi)]; rfl
theorem itM_items {μ : Mem} {J : MV} {xs : List MV} (h : items μ J = some xs) : itM μ J = .ok J μ := by
  cases J <;> simp only [items, reduceCtorEq, Option.some.injEq] at h
  · simp only [itM]
  · simp only [itM, h]
  · simp only [itM]
theorem Grow.items {μ μ1 : Mem} (a : Grow [] μ μ1) {J : MV} {xs : List MV} (h : items μ J = some xs) : Mch.items μ1 J = some xs := by
  cases J <;> simp only [Mch.items, reduceCtorEq] at h ⊢
  · exact h
  · exact a.lst h (by simp)
  · exact h
/-! ### values: no functions, no references but to lists -/
/-- the value is plain data, or a list that is there -/
def DatM (μ : Mem) : MV → Prop
  | .non => True
  | .bl _ => True
  | .int _ => True
  | .str _ => True
  | .tup _ => True
  | .ref a => ∃ xs, lstAt μ a = some xs
  | _ => False
def isIntM : MV → Bool
  | .int _ => true
  | _ => false
def isBlM : MV → Bool
  | .bl _ => true
  | _ => false
def isTupM : MV → Bool
  | .tup _ => true
  | _ => false
def isStrM : MV → Bool
  | .str _ => true
  | _ => false
theorem ty_bool {P : Prog} {μ : Mem} {v : MV} (h : DatM μ v) : tysM P μ v [.bool] = some (isBlM v) := by
  cases v <;> simp only [DatM] at h <;> simp [tysM, tyM, isBlM]
  obtain ⟨xs, h⟩ := h
  rw [h]
  rfl
theorem ty_int {P : Prog} {μ : Mem} {v : MV} (h : DatM μ v) : tysM P μ v [.int] = some (isIntM v || isBlM v) := by
  cases v <;> simp only [DatM] at h <;> simp [tysM, tyM, isBlM, isIntM]
  obtain ⟨xs, h⟩ := h
  rw [h]
  rfl
theorem ty_tup {P : Prog} {μ : Mem} {v : MV} (h : DatM μ v) : tysM P μ v [.tuple] = some (isTupM v) := by
  cases v <;> simp only [DatM] at h <;> simp [tysM, tyM, isTupM]
  obtain ⟨xs, h⟩ := h
  rw [h]
  rfl
theorem ty_str {P : Prog} {μ : Mem} {v : MV} (h : DatM μ v) : tysM P μ v [.str] = some (isStrM v) := by
  cases v <;> simp only [DatM] at h <;> simp [tysM, tyM, isStrM]
  obtain ⟨xs, h⟩ := h
  rw [h]
  rfl
/-! ### equations -/
section
variable {T : Tab} {σ : Env} {μ : Mem} {α β : Type}
@[simp] theorem bind_ok' {a : α} {f : α → Mem → R β} : (R.ok a μ).bind f = f a μ := Eq.trans rfl rfl
@[simp] theorem stm_ok' {a : α} {f : α → Mem → RS} : (R.ok a μ).stm σ f = f a μ := Eq.trans rfl rfl
@[simp] theorem opt_some {a : α} : R.opt (some a) μ = .ok a μ := Eq.trans rfl rfl
@[simp] theorem calm_ok' {a : α} : R.calm (R.ok a μ) = .ok a μ := Eq.trans rfl rfl
@[simp] theorem go_next {k : Env → Mem → RS} : (RS.ok (.next σ) μ).go k = k σ μ := Eq.trans rfl rfl
@[simp] theorem go_ret {k : Env → Mem → RS} {v : MV} : (RS.ok (.ret v) μ).go k = .ok (.ret v) μ := Eq.trans rfl rfl
@[simp] theorem go_exc {k : Env → Mem → RS} {x : MX} : (RS.exc x σ μ).go k = .exc x σ μ := Eq.trans rfl rfl
@[simp] theorem bind_exc {x : MX} {f : α → Mem → R β} : (R.exc x μ : R α).bind f = .exc x μ := Eq.trans rfl rfl
@[simp] theorem stm_exc {x : MX} {f : α → Mem → RS} : (R.exc x μ : R α).stm σ f = .exc x σ μ := Eq.trans rfl rfl
@[simp] theorem To_ok {a : α} {Q : α → Mem → Prop} : (R.ok a μ).To Q ↔ Q a μ := ⟨fun h => h, fun h => h⟩
@[simp] theorem STo_ok {f : Fl} {Q : Fl → Mem → Prop} : (RS.ok f μ).To Q ↔ Q f μ := ⟨fun h => h, fun h => h⟩
@[simp] theorem E_non : evE T .non σ μ = .ok .non μ := by simp only [evE]
@[simp] theorem E_bl {b : Bool} : evE T (.bl b) σ μ = .ok (.bl b) μ := by simp only [evE]
@[simp] theorem E_int {i : Int} : evE T (.int i) σ μ = .ok (.int i) μ := by simp only [evE]
@[simp] theorem E_str {x : Str} : evE T (.str x) σ μ = .ok (.str x) μ := by simp only [evE]
@[simp] theorem E_fn {f : Nat} : evE T (.fn f) σ μ = .ok (.fn f) μ := by simp only [evE]
theorem E_var {i : Nat} {v : MV} (h : σ[i]? = some (some v)) : evE T (.var i) σ μ = .ok v μ := by simp only [evE, h]
@[simp] theorem E_var0 {v : MV} {r : Env} : evE T (.var 0) (some v :: r) μ = .ok v μ := E_var rfl
@[simp] theorem E_varS {i : Nat} {o : Option MV} {r : Env} : evE T (.var (i + 1)) (o :: r) μ = evE T (.var i) r μ := by simp only [evE, List.getElem?_cons_succ]
def negM (x : MV) (μ : Mem) : R MV := match x with
  | .int i => .ok (.int (-i)) μ
  | _ => .no
@[simp] theorem neg_int' {i : Int} : negM (.int i) μ = .ok (.int (-i)) μ := Eq.trans rfl rfl
@[simp] theorem E_neg {a : E} : evE T (.neg a) σ μ = (evE T a σ μ).bind negM := by
  simp only [evE]
  congr 1
@[simp] theorem E_not {a : E} : evE T (.not a) σ μ = (evE T a σ μ).bind fun x μ => (truR x μ).bind fun b μ => .ok (.bl (!b)) μ := by simp only [evE]
@[simp] theorem E_bin {op : Operator} {a b : E} : evE T (.bin op a b) σ μ = (evE T a σ μ).bind fun x μ => (evE T b σ μ).bind fun y μ => binM μ op x y := by simp only [evE]
@[simp] theorem E_cmp {op : CmpOp} {a b : E} : evE T (.cmp op a b) σ μ = (evE T a σ μ).bind fun x μ => (evE T b σ μ).bind fun y μ => (R.opt (cmpM μ op x y) μ).bind fun k μ => .ok (.bl k) μ := by simp only [evE]
@[simp] theorem E_cmp2 {o1 o2 : CmpOp} {a b c : E} : evE T (.cmp2 o1 o2 a b c) σ μ = (evE T a σ μ).bind fun x μ => (evE T b σ μ).bind fun y μ => (R.opt (cmpM μ o1 x y) μ).bind fun k μ =>
      if k then (evE T c σ μ).bind fun z μ => (R.opt (cmpM μ o2 y z) μ).bind fun k μ => .ok (.bl k) μ else .ok (.bl false) μ := by simp only [evE]
@[simp] theorem E_and {a b : E} : evE T (.and a b) σ μ = (evE T a σ μ).bind fun x μ => (truR x μ).bind fun k μ => if k then evE T b σ μ else .ok x μ := by simp only [evE]
@[simp] theorem E_or {a b : E} : evE T (.or a b) σ μ = (evE T a σ μ).bind fun x μ => (truR x μ).bind fun k μ => if k then .ok x μ else evE T b σ μ := by simp only [evE]
@[simp] theorem E_ite {c a b : E} : evE T (.ite c a b) σ μ = (evE T c σ μ).bind fun x μ => (truR x μ).bind fun k μ => if k then evE T a σ μ else evE T b σ μ := by simp only [evE]
@[simp] theorem E_tup {as : List E} : evE T (.tup as) σ μ = (evEs T as σ μ).bind fun xs μ => newT xs μ := by simp only [evE]
@[simp] theorem E_lst {as : List E} : evE T (.lst as) σ μ = (evEs T as σ μ).bind fun xs μ => newL xs μ := by simp only [evE]
@[simp] theorem E_idx {a b : E} : evE T (.idx a b) σ μ = (evE T a σ μ).bind fun x μ => (evE T b σ μ).bind fun y μ => R.opt (idxM μ x y) μ := by simp only [evE]
@[simp] theorem E_slc {a lo hi : E} : evE T (.slc a lo hi) σ μ = (evE T a σ μ).bind fun x μ => (partR lo.isNon (evE T lo σ μ) μ).bind fun l μ => (partR hi.isNon (evE T hi σ μ) μ).bind fun h μ => slcM μ x l h := by simp only [evE]
@[simp] theorem E_call {f : Nat} {as : List E} : evE T (.call f as) σ μ = (evEs T as σ μ).bind fun xs μ => T.call f xs μ := by simp only [evE]
theorem E_callv {i f : Nat} {as : List E} (h : σ[i]? = some (some (.fn f))) : evE T (.callv i as) σ μ = (evEs T as σ μ).bind fun xs μ => T.call f xs μ := by simp only [evE, h]
@[simp] theorem E_callv0 {f : Nat} {as : List E} {r : Env} : evE T (.callv 0 as) (some (.fn f) :: r) μ = (evEs T as (some (.fn f) :: r) μ).bind fun xs μ => T.call f xs μ := E_callv rfl
@[simp] theorem E_mk {c : Nat} {as : List E} : evE T (.mk c as) σ μ = (evEs T as σ μ).bind fun xs μ => T.make c xs μ := by simp only [evE]
@[simp] theorem E_bi {b : BI} {as : List E} : evE T (.bi b as) σ μ = (evEs T as σ μ).bind fun xs μ => biM μ b xs := by simp only [evE]
@[simp] theorem E_mth {m : Mt} {o : E} {as : List E} : evE T (.mth m o as) σ μ = (evE T o σ μ).bind fun x μ => if mthTy μ m x then (evEs T as σ μ).bind fun xs μ => mthM μ m x xs else .no := by simp only [evE]
@[simp] theorem E_isin {a : E} {ts : List TyR} : evE T (.isin a ts) σ μ = (evE T a σ μ).bind fun x μ => (R.opt (tysM T.P μ x ts) μ).bind fun k μ => .ok (.bl k) μ := by simp only [evE]
@[simp] theorem E_rng {as : List E} : evE T (.rng as) σ μ = (evEs T as σ μ).bind fun xs μ => rngM μ xs := by simp only [evE]
@[simp] theorem Es_nil : evEs T [] σ μ = .ok [] μ := by simp only [evEs]
@[simp] theorem Es_cons {e : E} {es : List E} : evEs T (e :: es) σ μ = (evE T e σ μ).bind fun x μ => (evEs T es σ μ).bind fun xs μ => .ok (x :: xs) μ := by simp only [evEs]
@[simp] theorem S_asg {t e : E} : evS T (.asg t e) σ μ = (evE T e σ μ).stm σ fun v μ => (R.calm (asgT T t v σ μ)).stm σ fun σ μ => .ok (.next σ) μ := by simp only [evS]
@[simp] theorem S_expr {e : E} : evS T (.expr e) σ μ = (evE T e σ μ).stm σ fun _ μ => .ok (.next σ) μ := by simp only [evS]
@[simp] theorem S_ite {c : E} {a b : List S} : evS T (.ite c a b) σ μ = (evE T c σ μ).stm σ fun x μ => (truR x μ).stm σ fun k μ => if k then evB T a σ μ else evB T b σ μ := by simp only [evS]
@[simp] theorem S_while {c : E} {b : List S} : evS T (.while c b) σ μ = whileL (fun σ μ => (evE T c σ μ).bind truR) (evB T b) T.n σ μ := by simp only [evS]
@[simp] theorem S_for {t it : E} {b : List S} : evS T (.for t it b) σ μ = (evE T it σ μ).stm σ fun J μ => (itM μ J).stm σ fun J μ => forL J (bindT t) (evB T b) T.n 0 σ μ := by simp only [evS]
@[simp] theorem S_ret {e : E} : evS T (.ret e) σ μ = (evE T e σ μ).stm σ fun v μ => .ok (.ret v) μ := by simp only [evS]
@[simp] theorem S_retN : evS T .retN σ μ = .ok (.ret .non) μ := by simp only [evS]
@[simp] theorem S_pass : evS T .pass σ μ = .ok (.next σ) μ := by simp only [evS]
@[simp] theorem S_brk : evS T .brk σ μ = .ok (.brk σ) μ := by simp only [evS]
@[simp] theorem S_cnt : evS T .cnt σ μ = .ok (.cnt σ) μ := by simp only [evS]
@[simp] theorem B_nil : evB T [] σ μ = .ok (.next σ) μ := by simp only [evB]
@[simp] theorem B_cons {s : S} {b : List S} : evB T (s :: b) σ μ = (evS T s σ μ).go fun σ μ => evB T b σ μ := by simp only [evB]
@[simp] theorem A_var {i : Nat} {v : MV} : asgT T (.var i) v σ μ = .ok (σ.set i (some v)) μ := by simp only [asgT]
@[simp] theorem A_idx {a b : E} {v : MV} : asgT T (.idx a b) v σ μ = (evE T a σ μ).bind fun x μ => (evE T b σ μ).bind fun y μ => (setM μ x y v).bind fun _ μ => .ok σ μ := by simp only [asgT]
@[simp] theorem A_tup {ts : List E} {xs : List MV} : asgT T (.tup ts) (.tup xs) σ μ = if xs.length = ts.length then asgT.go T ts xs σ μ else .no := by simp only [asgT]
@[simp] theorem Ag_nil : asgT.go T [] [] σ μ = .ok σ μ := by simp only [asgT.go]
@[simp] theorem Ag_cons {t : E} {ts : List E} {x : MV} {xs : List MV} : asgT.go T (t :: ts) (x :: xs) σ μ = (asgT T t x σ μ).bind fun σ μ => asgT.go T ts xs σ μ := by simp only [asgT.go]
@[simp] theorem tru_bl {b : Bool} : truR (.bl b) μ = .ok b μ := Eq.trans rfl rfl
@[simp] theorem tru_int {i : Int} : truR (.int i) μ = .ok (i != 0) μ := Eq.trans rfl rfl
@[simp] theorem T_var {i : Nat} {v : MV} : bindT (.var i) v σ = some (σ.set i (some v)) := by simp only [bindT]
theorem newT_ok' {xs : List MV} (h : xs.length ≤ sizeLine) : newT xs μ = .ok (.tup xs) μ := if_pos h
theorem newL_ok' {xs : List MV} (h : xs.length ≤ sizeLine) : newL xs μ = .ok (.ref μ.length) (μ ++ [.lst xs]) := if_pos h
/-- small rows -/
@[simp] theorem newT0 : newT [] μ = .ok (.tup []) μ := newT_ok' (by show 0 ≤ sizeLine; decide)
@[simp] theorem newT1 {a : MV} : newT [a] μ = .ok (.tup [a]) μ := newT_ok' (by show 1 ≤ sizeLine; decide)
@[simp] theorem newT2 {a b : MV} : newT [a, b] μ = .ok (.tup [a, b]) μ := newT_ok' (by show 2 ≤ sizeLine; decide)
@[simp] theorem newT3 {a b c : MV} : newT [a, b, c] μ = .ok (.tup [a, b, c]) μ := newT_ok' (by show 3 ≤ sizeLine; decide)
@[simp] theorem newT4 {a b c d : MV} : newT [a, b, c, d] μ = .ok (.tup [a, b, c, d]) μ := newT_ok' (by show 4 ≤ sizeLine; decide)
@[simp] theorem newT6 {a b c d e f : MV} : newT [a, b, c, d, e, f] μ = .ok (.tup [a, b, c, d, e, f]) μ := newT_ok' (by show 6 ≤ sizeLine; decide)
@[simp] theorem newL0 : newL [] μ = .ok (.ref μ.length) (μ ++ [.lst []]) := newL_ok' (by show 0 ≤ sizeLine; decide)
@[simp] theorem newL1 {a : MV} : newL [a] μ = .ok (.ref μ.length) (μ ++ [.lst [a]]) := newL_ok' (by show 1 ≤ sizeLine; decide)
@[simp] theorem newL2 {a b : MV} : newL [a, b] μ = .ok (.ref μ.length) (μ ++ [.lst [a, b]]) := newL_ok' (by show 2 ≤ sizeLine; decide)
end
/-! ### comparisons -/
@[simp] theorem eq_int {μ : Mem} {a b : Int} : eqM μ (.int a) (.int b) = some (decide (a = b)) := by
  simp only [eqM, toD, PyData.eqv, Option.some.injEq]
  exact Bool.eq_iff_iff.mpr (by simp)
@[simp] theorem eq_bl {μ : Mem} {a b : Bool} : eqM μ (.bl a) (.bl b) = some (decide (a = b)) := by
  simp [eqM, toD, PyData.eqv]
  cases a <;> cases b <;> rfl
@[simp] theorem cmp_eqi {μ : Mem} {a b : Int} : cmpM μ .Eq (.int a) (.int b) = some (decide (a = b)) := eq_int (μ := μ)
@[simp] theorem cmp_nei {μ : Mem} {a b : Int} : cmpM μ .NotEq (.int a) (.int b) = some (!decide (a = b)) := by
  simp only [cmpM, eq_int, Option.map_some]
@[simp] theorem cmp_lt {μ : Mem} {a b : Int} : cmpM μ .Lt (.int a) (.int b) = some (decide (a < b)) := Eq.trans rfl rfl
@[simp] theorem cmp_le {μ : Mem} {a b : Int} : cmpM μ .LtE (.int a) (.int b) = some (decide (a ≤ b)) := Eq.trans rfl rfl
@[simp] theorem cmp_gt {μ : Mem} {a b : Int} : cmpM μ .Gt (.int a) (.int b) = some (decide (b < a)) := Eq.trans rfl rfl
@[simp] theorem cmp_ge {μ : Mem} {a b : Int} : cmpM μ .GtE (.int a) (.int b) = some (decide (b ≤ a)) := Eq.trans rfl rfl
@[simp] theorem cmp_eqb {μ : Mem} {a b : Bool} : cmpM μ .Eq (.bl a) (.bl b) = some (decide (a = b)) := eq_bl (μ := μ)
/-! ### comprehensions -/
/-- a comprehension's turn: none, if the test says no -/
def turnE (T : Tab) (cd elt : E) (σ1 : Env) (μ : Mem) : R (Option MV) := (evE T cd σ1 μ).bind fun k μ => (truR k μ).bind fun k μ => if k then (evE T elt σ1 μ).bind fun v μ => .ok (some v) μ else .ok none μ
/-- over items that stay, the item a function of the thing -/
theorem comp_gen {T : Tab} {σ : Env} {μ : Mem} {elt tg it cd : E} {own : List Nat} {J : MV} {μ1 : Mem} {xs : List MV} {Q : MV → Mem → Prop} (I : Nat → List MV → Mem → Prop) (hn : xs.length < T.n) (hz : xs.length ≤ sizeLine) (hi : evE T it σ μ = .ok J μ1) (hJ : items μ1 J = some xs)
    (h0 : I 0 [] μ1) (gi : ∀ i acc μ2, I i acc μ2 → items μ2 J = some xs ∧ acc.length ≤ i)
    (hstep : ∀ i x acc μ2, xs[i]? = some x → I i acc μ2 → ∃ σ1, bindT tg x (wipeM σ own) = some σ1 ∧ (turnE T cd elt σ1 μ2).To fun o μ3 => I (i + 1) (acc ++ o.toList) μ3)
    (hQ : ∀ acc μ2, I xs.length acc μ2 → Q (.ref μ2.length) (μ2 ++ [.lst acc])) : (evE T (.comp elt tg it cd own) σ μ).To Q := by
  simp only [evE, hi, bind_ok']
  rw [itM_items hJ]
  simp only [bind_ok']
  refine R.To.bind (compL_to (J := J) (xs := xs) (I := I) (fun i acc μ2 h => nth_items (gi i acc μ2 h).1 i) (fun i x acc μ2 hx h => ?_) (fun acc μ2 h => ?_) T.n 0 [] μ1 (Nat.zero_le _) (by omega) h0)
  · obtain ⟨σ1, e1, hs⟩ := hstep i x acc μ2 hx h
    have hl2 : acc.length < sizeLine := by
      have h1 := (gi i acc μ2 h).2
      have h2 := (List.getElem?_eq_some_iff.mp hx).1
      omega
    simp only [e1, opt_some, bind_ok']
    revert hs
    unfold turnE
    cases evE T cd σ1 μ2 with
    | no => exact fun h => h.elim
    | exc z μ => exact fun h => h.elim
    | ok kv μ3 =>
      simp only [bind_ok']
      cases truR kv μ3 with
      | no => exact fun h => h.elim
      | exc z μ => exact fun h => h.elim
      | ok k μ4 =>
        simp only [bind_ok']
        cases k with
        | false =>
          intro h
          simp only [if_neg Bool.false_ne_true, To_ok, Option.toList_none, List.append_nil] at h
          exact h
        | true =>
          rw [if_pos rfl, if_pos rfl]
          cases evE T elt σ1 μ4 with
          | no => exact fun h => h.elim
          | exc z μ => exact fun h => h.elim
          | ok v μ5 =>
            intro h
            simp only [bind_ok', putL, if_pos hl2, calm_ok', To_ok]
            exact h
  · rw [newL_ok' (by have := (gi _ acc μ2 h).2; omega)]
    exact hQ acc μ2 h
theorem take_succ' {α : Type} {xs : List α} {i : Nat} {x : α} (hx : xs[i]? = some x) : xs.take (i + 1) = xs.take i ++ [x] := by
  rw [List.take_add_one, hx]
  rfl
theorem fm_len {α β : Type} (f : α → Option β) (xs : List α) (i : Nat) : ((xs.take i).filterMap f).length ≤ i := by
  have h1 := List.length_filterMap_le f (xs.take i)
  rw [List.length_take] at h1
  omega
/-- .. nothing that is known is written -/
theorem comp_to {T : Tab} {σ : Env} {μ : Mem} {elt tg it cd : E} {own : List Nat} {J : MV} {μ1 : Mem} {xs : List MV} {Q : MV → Mem → Prop} (f : MV → Option MV) (hn : xs.length < T.n) (hz : xs.length ≤ sizeLine) (hi : evE T it σ μ = .ok J μ1) (hJ : items μ1 J = some xs)
    (hstep : ∀ x μ2, x ∈ xs → Grow [] μ1 μ2 → ∃ σ1, bindT tg x (wipeM σ own) = some σ1 ∧ (turnE T cd elt σ1 μ2).To fun o μ3 => o = f x ∧ Grow [] μ2 μ3)
    (hQ : ∀ μ2, Grow [] μ1 μ2 → Q (.ref μ2.length) (μ2 ++ [.lst (xs.filterMap f)])) : (evE T (.comp elt tg it cd own) σ μ).To Q := by
  refine comp_gen (I := fun i acc μ2 => acc = (xs.take i).filterMap f ∧ Grow [] μ1 μ2) hn hz hi hJ ⟨by simp, Grow.refl _ _⟩ (fun i acc μ2 h => ⟨h.2.items hJ, by rw [h.1]; exact fm_len f xs i⟩) (fun i x acc μ2 hx h => ?_) fun acc μ2 h => ?_
  · obtain ⟨rfl, g⟩ := h
    obtain ⟨σ1, e1, hs⟩ := hstep x μ2 (List.mem_of_getElem? hx) g
    refine ⟨σ1, e1, hs.imp fun o μ3 ho => ⟨?_, g.trans ho.2⟩⟩
    rw [take_succ' hx, List.filterMap_append, ho.1]
    congr 1
  · obtain ⟨rfl, g⟩ := h
    rw [List.take_length]
    exact hQ μ2 g
/-- .. the memory stays as it is -/
theorem comp_pure {T : Tab} {σ : Env} {μ : Mem} {elt tg it cd : E} {own : List Nat} {J : MV} {μ1 : Mem} {xs : List MV} (f : MV → Option MV) (hn : xs.length < T.n) (hz : xs.length ≤ sizeLine) (hi : evE T it σ μ = .ok J μ1) (hJ : items μ1 J = some xs)
    (hstep : ∀ x, x ∈ xs → ∃ σ1, bindT tg x (wipeM σ own) = some σ1 ∧ turnE T cd elt σ1 μ1 = .ok (f x) μ1) : evE T (.comp elt tg it cd own) σ μ = .ok (.ref μ1.length) (μ1 ++ [.lst (xs.filterMap f)]) := by
  have : (evE T (.comp elt tg it cd own) σ μ).To fun v μ' => v = .ref μ1.length ∧ μ' = μ1 ++ [.lst (xs.filterMap f)] := by
    refine comp_gen (I := fun i acc μ2 => acc = (xs.take i).filterMap f ∧ μ2 = μ1) hn hz hi hJ ⟨by simp, rfl⟩ (fun i acc μ2 h => ⟨by rw [h.2]; exact hJ, by rw [h.1]; exact fm_len f xs i⟩) (fun i x acc μ2 hx h => ?_) fun acc μ2 h => ?_
    · obtain ⟨rfl, rfl⟩ := h
      obtain ⟨σ1, e1, hs⟩ := hstep x (List.mem_of_getElem? hx)
      refine ⟨σ1, e1, ?_⟩
      rw [hs]
      refine ⟨?_, rfl⟩
      rw [take_succ' hx, List.filterMap_append]
      congr 1
    · obtain ⟨rfl, rfl⟩ := h
      rw [List.take_length]
      exact ⟨rfl, rfl⟩
  obtain ⟨v, μ', e, rfl, rfl⟩ := this.eq
  exact e
theorem fm_some {α β : Type} (f : α → β) (xs : List α) : xs.filterMap (fun x => some (f x)) = xs.map f := by
  induction xs with
  | nil => rfl
  | cons x xs ih => simp [ih]
theorem bls_map (l : List MV) (p : MV → Bool) : bls (l.map fun x => .bl (p x)) = some (l.map p) := by
  induction l with
  | nil => rfl
  | cons x l ih => simp only [List.map_cons, bls, ih, Option.map_some]
theorem strs_map (l : List MV) (p : MV → Str) : strs' (l.map fun x => .str (p x)) = some (l.map p) := by
  induction l with
  | nil => rfl
  | cons x l ih => simp only [List.map_cons, strs', ih, Option.map_some]
@[simp] theorem all_new {μ : Mem} {l : List MV} {p : MV → Bool} : biM (μ ++ [.lst (l.map fun x => .bl (p x))]) .all [.ref μ.length] = .ok (.bl (l.all p)) (μ ++ [.lst (l.map fun x => .bl (p x))]) := by
  simp only [biM, lstAt_new, Option.bind_some, bls_map]
  congr 2
  rw [List.all_map]
  rfl
@[simp] theorem any_new {μ : Mem} {l : List MV} {p : MV → Bool} : biM (μ ++ [.lst (l.map fun x => .bl (p x))]) .any [.ref μ.length] = .ok (.bl (l.any p)) (μ ++ [.lst (l.map fun x => .bl (p x))]) := by
  simp only [biM, lstAt_new, Option.bind_some, bls_map]
  congr 2
  rw [List.any_map]
  rfl
theorem flat_dat {μ : Mem} {v : MV} (h : flatM v = true) : DatM μ v := by
  cases v <;> simp only [flatM, Bool.false_eq_true, reduceCtorEq] at h <;> trivial
@[simp] theorem wipe_nil {σ : Env} : wipeM σ [] = σ := Eq.trans rfl rfl
@[simp] theorem wipe_cons {σ : Env} {v : Nat} {vs : List Nat} : wipeM σ (v :: vs) = (wipeM σ vs).set v none := Eq.trans rfl rfl
/-- a call's end -/
def retT (Q : MV → Mem → Prop) : Fl → Mem → Prop
  | .ret v, μ => Q v μ
  | .next _, μ => Q .non μ
  | _, _ => False
theorem runD_to {T : Tab} {D : Def} {args : List MV} {μ : Mem} {Q : MV → Mem → Prop} (hf : fullArgs D args = args) (hl : args.length = D.np) (h : (evB T D.body (slots D args) μ).To (retT Q)) : (runD T D args μ).To Q := by
  unfold runD
  rw [hf, if_pos hl]
  revert h
  cases evB T D.body (slots D args) μ with
  | no => exact fun h => h.elim
  | exc x σ ν => exact fun h => h.elim
  | ok f ν => cases f <;> exact fun h => h
theorem R.To.is {α : Type} {r : R α} {a : α} {μ : Mem} (h : r.To fun b ν => b = a ∧ ν = μ) : r = .ok a μ := by
  obtain ⟨b, ν, e, rfl, rfl⟩ := h.eq
  exact e
@[simp] theorem retT_ret {Q : MV → Mem → Prop} {v : MV} {μ : Mem} : retT Q (.ret v) μ ↔ Q v μ := ⟨fun h => h, fun h => h⟩
@[simp] theorem goT_next {P : Fl → Mem → Prop} {k : Env → Mem → RS} {σ : Env} {μ : Mem} : goT P k (.next σ) μ ↔ (k σ μ).To P := ⟨fun h => h, fun h => h⟩
@[simp] theorem goT_ret {P : Fl → Mem → Prop} {k : Env → Mem → RS} {v : MV} {μ : Mem} : goT P k (.ret v) μ ↔ P (.ret v) μ := ⟨fun h => h, fun h => h⟩
@[simp] theorem turnT_next {P : Fl → Mem → Prop} {I : Env → Mem → Prop} {σ : Env} {μ : Mem} : turnT P I (.next σ) μ ↔ I σ μ := ⟨fun h => h, fun h => h⟩
@[simp] theorem turnT_ret {P : Fl → Mem → Prop} {I : Env → Mem → Prop} {v : MV} {μ : Mem} : turnT P I (.ret v) μ ↔ P (.ret v) μ := ⟨fun h => h, fun h => h⟩
/-! ### comprehensions of two clauses, rows -/
theorem flatMap_split {α β : Type} {xs : List α} {f : α → List β} {i : Nat} {x : α} (h : xs[i]? = some x) : (xs.flatMap f).length = ((xs.take i).flatMap f).length + (f x).length + ((xs.drop (i + 1)).flatMap f).length := by
  have hi := (List.getElem?_eq_some_iff.mp h).1
  have e : xs = xs.take i ++ x :: xs.drop (i + 1) := by
    rw [← (List.getElem?_eq_some_iff.mp h).2, List.getElem_cons_drop, List.take_append_drop]
  have e2 : (xs.flatMap f).length = ((xs.take i ++ x :: xs.drop (i + 1)).flatMap f).length := by rw [← e]
  rw [e2, List.flatMap_append, List.flatMap_cons, List.length_append, List.length_append]
  omega
theorem comp2_pure {T : Tab} {σ : Env} {μ : Mem} {elt tg it tg1 it1 : E} {own own1 : List Nat} {J : MV} {μ1 : Mem} {xs : List MV} (J1 : MV → MV) (ys : MV → List MV) (f : MV → MV → MV) (hn : xs.length < T.n) (hi : evE T it σ μ = .ok J μ1) (hJ : items μ1 J = some xs) (hz : (xs.flatMap fun x => (ys x).map (f x)).length ≤ sizeLine)
    (hstep : ∀ x, x ∈ xs → ∃ σ1, bindT tg x (wipeM σ own) = some σ1 ∧ evE T it1 σ1 μ1 = .ok (J1 x) μ1 ∧ items μ1 (J1 x) = some (ys x) ∧ (ys x).length < T.n ∧ ∀ y, y ∈ ys x → ∃ σ2, bindT tg1 y (wipeM σ1 own1) = some σ2 ∧ evE T elt σ2 μ1 = .ok (f x y) μ1) :
    evE T (.comp2 elt tg it (.bl true) tg1 it1 (.bl true) own own1) σ μ = .ok (.ref μ1.length) (μ1 ++ [.lst (xs.flatMap fun x => (ys x).map (f x))]) := by
  refine R.To.is ?_
  simp only [evE, hi, bind_ok']
  rw [itM_items hJ]
  simp only [bind_ok']
  refine R.To.bind (compL_to (J := J) (xs := xs) (I := fun i acc μ2 => acc = ((xs.take i).flatMap fun x => (ys x).map (f x)) ∧ μ2 = μ1) (fun i acc μ2 h => by rw [h.2]; exact nth_items hJ i) (fun i x acc μ2 hx h => ?_) (fun acc μ2 h => ?_) T.n 0 [] μ1 (Nat.zero_le _) (by omega) ⟨by simp, rfl⟩)
  · obtain ⟨rfl, rfl⟩ := h
    obtain ⟨σ1, e1, e2, e3, e4, hs⟩ := hstep x (List.mem_of_getElem? hx)
    simp only [e1, opt_some, bind_ok', tru_bl, if_true, e2, itM_items e3]
    have hc : (compL (J1 x) (fun acc x μ => (R.opt (bindT tg1 x (wipeM σ1 own1)) μ).bind fun σ2 μ => (evE T elt σ2 μ).bind fun v μ => putL acc v μ) T.n 0 ((xs.take i).flatMap fun x => (ys x).map (f x)) μ2).To fun acc ν => acc = ((xs.take (i + 1)).flatMap fun x => (ys x).map (f x)) ∧ ν = μ2 := by
      refine compL_to (J := J1 x) (xs := ys x) (I := fun j acc ν => acc = ((xs.take i).flatMap fun x => (ys x).map (f x)) ++ ((ys x).take j).map (f x) ∧ ν = μ2) (fun j acc ν h => by rw [h.2]; exact nth_items e3 j) (fun j y acc ν hy h => ?_) (fun acc ν h => ?_) T.n 0 _ μ2 (Nat.zero_le _) (by omega) ⟨by simp, rfl⟩
      · obtain ⟨rfl, rfl⟩ := h
        obtain ⟨σ2, g1, g2⟩ := hs y (List.mem_of_getElem? hy)
        have hl := flatMap_split (f := fun x => (ys x).map (f x)) hx
        have hj := (List.getElem?_eq_some_iff.mp hy).1
        have hlt : (((xs.take i).flatMap fun x => (ys x).map (f x)) ++ ((ys x).take j).map (f x)).length < sizeLine := by
          rw [List.length_append, List.length_map, List.length_take]
          rw [List.length_map] at hl
          omega
        simp only [g1, opt_some, bind_ok', g2, putL, if_pos hlt, To_ok]
        rw [take_succ' hy, List.map_append, List.append_assoc]
        exact ⟨rfl, by trivial⟩
      · obtain ⟨rfl, rfl⟩ := h
        rw [take_succ' hx, List.flatMap_append, List.take_length]
        simp
    obtain ⟨a, ν, he, rfl, rfl⟩ := hc.eq
    rw [he]
    exact ⟨rfl, rfl⟩
  · obtain ⟨rfl, rfl⟩ := h
    rw [List.take_length, newL_ok' hz]
    exact ⟨rfl, rfl⟩
/-! ### data -/
mutual
theorem eqv_all : ∀ (n : Nat) (μ : Mem) (x : MV) (d : PyData), toD μ n x = some d → PyData.eqv d d = true
  | 0, μ, x, d, h => by simp only [toD] at h; cases h
  | n + 1, μ, x, d, h => by
    cases x <;> simp only [toD, reduceCtorEq, Option.some.injEq] at h
    · subst h; simp [PyData.eqv]
    · subst h; simp [PyData.eqv]
    · subst h; simp [PyData.eqv]
    · split at h
      · cases h; simp [PyData.eqv]
      · cases h
    · obtain ⟨ds, h1, rfl⟩ := Option.map_eq_some_iff.mp h
      rw [PyData.eqv]
      exact eqv_alls n μ _ ds h1
    · split at h
      · obtain ⟨ds, h1, rfl⟩ := Option.map_eq_some_iff.mp h
        rw [PyData.eqv]
        exact eqv_alls n μ _ ds h1
      · cases h
theorem eqv_alls : ∀ (n : Nat) (μ : Mem) (xs : List MV) (ds : List PyData), toDs (toD μ n) xs = some ds → PyData.eqvAll ds ds = true
  | n, μ, [], ds, h => by
    simp only [toDs, Option.some.injEq] at h
    subst h
    simp [PyData.eqvAll]
  | n, μ, x :: xs, ds, h => by
    simp only [toDs] at h
    split at h
    · rename_i d ds' h1 h2
      cases h
      rw [PyData.eqvAll, eqv_all n μ x d h1, eqv_alls n μ xs ds' h2]
      rfl
    · cases h
end
theorem toDs_some {f : MV → Option PyData} : ∀ {xs : List MV}, (∀ x ∈ xs, ∃ d, f x = some d) → ∃ ds, toDs f xs = some ds
  | [], _ => ⟨[], rfl⟩
  | x :: xs, h => by
    obtain ⟨d, h1⟩ := h x (by simp)
    obtain ⟨ds, h2⟩ := toDs_some (xs := xs) fun y hy => h y (by simp [hy])
    exact ⟨d :: ds, by simp only [toDs, h1, h2]⟩
theorem eq_self {μ : Mem} {x : MV} {d : PyData} (h : toD μ 40 x = some d) : eqM μ x x = some true := by
  simp only [eqM, h, eqv_all 40 μ x d h]
theorem eq_refs {μ : Mem} {a b : Nat} {xs : List MV} (ha : lstAt μ a = some xs) (hb : lstAt μ b = some xs) (h : ∀ x ∈ xs, ∃ d, toD μ 39 x = some d) : eqM μ (.ref a) (.ref b) = some true := by
  obtain ⟨ds, hd⟩ := toDs_some h
  have e1 : toD μ 40 (.ref a) = some (.list ds) := by
    show (match lstAt μ a with
      | some xs => (toDs (toD μ 39) xs).map PyData.list
      | none => none) = _
    rw [ha]
    simp only [hd, Option.map_some]
  have e2 : toD μ 40 (.ref b) = some (.list ds) := by
    show (match lstAt μ b with
      | some xs => (toDs (toD μ 39) xs).map PyData.list
      | none => none) = _
    rw [hb]
    simp only [hd, Option.map_some]
  simp only [eqM, e1, e2, eqv_all 40 μ _ _ e1]
theorem toD_int {μ : Mem} {n : Nat} {i : Int} : toD μ (n + 1) (.int i) = some (.int i) := by simp only [toD]
theorem toD_tup {μ : Mem} {n : Nat} {xs : List MV} (h : ∀ x ∈ xs, ∃ i : Int, x = .int i) : ∃ d, toD μ (n + 2) (.tup xs) = some d := by
  obtain ⟨ds, hd⟩ := toDs_some (f := toD μ (n + 1)) (xs := xs) fun x hx => by
    obtain ⟨i, rfl⟩ := h x hx
    exact ⟨_, toD_int⟩
  refine ⟨.tuple ds, ?_⟩
  show (toDs (toD μ (n + 1)) xs).map PyData.tuple = _
  rw [hd]
  rfl
end Mch

/-! ## whole numbers: what the machine's operators do -/
namespace Mch
open PySem
theorem fmod_lt' (a : Int) {b : Int} (h : b ≠ 0) : (a.fmod b).natAbs < b.natAbs := by
  rcases Int.lt_or_gt_of_ne h with h | h
  · have h1 := Int.fmod_nonneg_of_pos (-a) (b := -b) (by omega)
    have h2 := Int.fmod_lt_of_pos (-a) (b := -b) (by omega)
    rw [Int.neg_fmod_neg] at h1 h2
    omega
  · have h1 := Int.fmod_nonneg_of_pos a h
    have h2 := Int.fmod_lt_of_pos a h
    omega
theorem gcd_fmod (a b : Int) : Int.gcd b (a.fmod b) = Int.gcd a b := by
  rw [Int.fmod_def, Int.gcd_sub_mul_left_right, Int.gcd_comm]
theorem fdiv_abs (a b : Int) : (a.fdiv b).natAbs ≤ a.natAbs + 1 := by
  by_cases h : b = 0
  · subst h
    rw [Int.fdiv_zero]
    omega
  · have h1 := Int.mul_fdiv_add_fmod a b
    have h2 := fmod_lt' a h
    have h3 : (b * a.fdiv b).natAbs ≤ a.natAbs + (a.fmod b).natAbs := by
      have e : b * a.fdiv b = a - a.fmod b := by omega
      rw [e]
      omega
    rw [Int.natAbs_mul] at h3
    have hb : 0 < b.natAbs := by omega
    have h4 : b.natAbs * (a.fdiv b).natAbs < a.natAbs + b.natAbs := by omega
    by_cases hc : (a.fdiv b).natAbs ≤ a.natAbs + 1
    · exact hc
    · exfalso
      have h5 : a.natAbs + 2 ≤ (a.fdiv b).natAbs := by omega
      have h6 : b.natAbs * (a.natAbs + 2) ≤ b.natAbs * (a.fdiv b).natAbs := Nat.mul_le_mul_left _ h5
      have h7 : a.natAbs ≤ b.natAbs * a.natAbs := Nat.le_mul_of_pos_left _ hb
      rw [Nat.mul_add] at h6
      omega
theorem mulOk_l {i j : Int} (h : i.natAbs < 2 ^ 64) : mulOk i j = true := by
  unfold mulOk
  have h1 : -18446744073709551616 < i ∧ i < 18446744073709551616 := by omega
  simp [h1]
theorem mulOk_r {i j : Int} (h : j.natAbs < 2 ^ 64) : mulOk i j = true := by
  unfold mulOk
  have h1 : -18446744073709551616 < j ∧ j < 18446744073709551616 := by omega
  simp [h1]
theorem divOk_s {j : Int} (h : j ≠ 0) (h2 : j.natAbs < 1073741824) : divOk j = true := by
  unfold divOk
  simp [h, h2]
theorem abs_nat (a : Int) : (if a < 0 then -a else a) = (a.natAbs : Int) := by omega
section
variable {μ : Mem} {a b : Int}
@[simp] theorem bin_add : binM μ .Add (.int a) (.int b) = .ok (.int (a + b)) μ := Eq.trans rfl rfl
@[simp] theorem bin_sub : binM μ .Sub (.int a) (.int b) = .ok (.int (a - b)) μ := Eq.trans rfl rfl
theorem bin_mul (h : mulOk a b = true) : binM μ .Mult (.int a) (.int b) = .ok (.int (a * b)) μ := if_pos h
theorem bin_div (h : divOk b = true) : binM μ .FloorDiv (.int a) (.int b) = .ok (.int (a.fdiv b)) μ := if_pos h
theorem bin_mod (h : b ≠ 0) : binM μ .Mod (.int a) (.int b) = .ok (.int (a.fmod b)) μ := if_pos h
@[simp] theorem bi_abs : biM μ .abs [.int a] = .ok (.int (a.natAbs : Int)) μ := by
  rw [← abs_nat]
  rfl
@[simp] theorem bi_int : biM μ .int [.int a] = .ok (.int a) μ := Eq.trans rfl rfl
@[simp] theorem bi_intb {k : Bool} : biM μ .int [.bl k] = .ok (.int (if k then 1 else 0)) μ := Eq.trans rfl rfl
end
end Mch

/-! ## Objects: equations -/
namespace Mch
open PySem
section
variable {T : Tab} {σ : Env} {μ : Mem}
@[simp] theorem E_obin {op : Operator} {a b : E} : evE T (.obin op a b) σ μ = (evE T a σ μ).bind fun x μ => (evE T b σ μ).bind fun y μ => binT T μ op x y := by simp only [evE]
@[simp] theorem E_oneg {a : E} : evE T (.oneg a) σ μ = (evE T a σ μ).bind fun x μ => negT T μ x := by simp only [evE]
@[simp] theorem E_ocmp {op : CmpOp} {a b : E} : evE T (.ocmp op a b) σ μ = (evE T a σ μ).bind fun x μ => (evE T b σ μ).bind fun y μ => (cmpT T μ op x y).bind fun k μ => .ok (.bl k) μ := by simp only [evE]
@[simp] theorem E_ostr {a : E} : evE T (.ostr a) σ μ = (evE T a σ μ).bind fun x μ => strT T μ x := by simp only [evE]
@[simp] theorem E_fmt {a : E} : evE T (.fmt a) σ μ = (evE T a σ μ).bind fun x μ => fmtT T μ x := by simp only [evE]
@[simp] theorem fmtT_int {a : Int} : fmtT T μ (.int a) = fmtM μ (.int a) := Eq.trans rfl rfl
@[simp] theorem fmtT_str {a : Str} : fmtT T μ (.str a) = fmtM μ (.str a) := Eq.trans rfl rfl
@[simp] theorem fmtT_obj {c : Nat} {vs : List MV} : fmtT T μ (.obj c vs) = strT T μ (.obj c vs) := Eq.trans rfl rfl
def cdxM (P : Prog) (k : Nat) (x : MV) (μ : Mem) : R MV := match x with
    | .int i => R.opt ((P.dcs[k]?).bind fun D => (D.lookup i).map .int) μ
    | _ => .no
@[simp] theorem E_cdx {k : Nat} {a : E} : evE T (.cdx k a) σ μ = (evE T a σ μ).bind fun x μ => cdxM T.P k x μ := by
  simp only [evE]
  congr 1
@[simp] theorem E_fstr {as : List E} : evE T (.fstr as) σ μ = (evF T as Str.empty σ μ).bind fun y μ => .ok (.str y) μ := by simp only [evE]
@[simp] theorem F_nil {acc : Str} : evF T [] acc σ μ = .ok acc μ := by simp only [evF]
theorem F_cons {e : E} {es : List E} {acc y : Str} {ν : Mem} (h : evE T e σ μ = .ok (.str y) ν) (hl : (acc ++ y).length ≤ sizeLine) : evF T (e :: es) acc σ μ = evF T es (acc ++ y) σ ν := by
  simp only [evF, h, bind_ok', if_pos hl]
/-- a field of an object -/
def fldM (P : Prog) (f : Str) (x : MV) (μ : Mem) : R MV := match x with
  | .obj c vs => R.opt ((P.clss[c]?).bind fun C => if C.init.isSome then (C.fields.idxOf? f).bind fun j => vs[j]? else none) μ
  | _ => .no
@[simp] theorem E_fld {a : E} {f : Str} : evE T (.fld a f) σ μ = (evE T a σ μ).bind (fldM T.P f) := by
  simp only [evE]
  congr 1
theorem E_omth {m : Str} {o : E} {as : List E} {c f : Nat} {vs : List MV} {ν : Mem} (h : evE T o σ μ = .ok (.obj c vs) ν) (hm : methOf T.P c m = some f) : evE T (.omth m o as) σ μ = (evEs T as σ ν).bind fun xs μ => T.call f (.obj c vs :: xs) μ := by
  simp only [evE, h, bind_ok', hm]
@[simp] theorem binT_int {op : Operator} {a : Int} {y : MV} : binT T μ op (.int a) y = binM μ op (.int a) y := Eq.trans rfl rfl
@[simp] theorem binT_str {op : Operator} {a : Str} {y : MV} : binT T μ op (.str a) y = binM μ op (.str a) y := Eq.trans rfl rfl
@[simp] theorem binT_tup {op : Operator} {a : List MV} {y : MV} : binT T μ op (.tup a) y = binM μ op (.tup a) y := Eq.trans rfl rfl
@[simp] theorem binT_ref {op : Operator} {a : Nat} {y : MV} : binT T μ op (.ref a) y = binM μ op (.ref a) y := Eq.trans rfl rfl
theorem binT_obj {op : Operator} {c f : Nat} {vs : List MV} {y : MV} (hm : methOf T.P c (opName op) = some f) (ho : othB c μ y = true) : binT T μ op (.obj c vs) y = T.call f [.obj c vs, y] μ := by
  simp only [binT, hm, ho, if_true]
@[simp] theorem negT_int {a : Int} : negT T μ (.int a) = .ok (.int (-a)) μ := Eq.trans rfl rfl
theorem negT_obj {c f : Nat} {vs : List MV} (hm : methOf T.P c "__neg__" = some f) : negT T μ (.obj c vs) = T.call f [.obj c vs] μ := by
  simp only [negT, hm]
@[simp] theorem cmpT_int {op : CmpOp} {a : Int} {y : MV} : cmpT T μ op (.int a) y = R.opt (cmpM μ op (.int a) y) μ := Eq.trans rfl rfl
@[simp] theorem cmpT_bl {op : CmpOp} {a : Bool} {y : MV} : cmpT T μ op (.bl a) y = R.opt (cmpM μ op (.bl a) y) μ := Eq.trans rfl rfl
@[simp] theorem cmpT_non {op : CmpOp} {y : MV} : cmpT T μ op .non y = R.opt (cmpM μ op .non y) μ := Eq.trans rfl rfl
@[simp] theorem cmpT_str {op : CmpOp} {a : Str} {y : MV} : cmpT T μ op (.str a) y = R.opt (cmpM μ op (.str a) y) μ := Eq.trans rfl rfl
@[simp] theorem cmpT_tup {op : CmpOp} {a : List MV} {y : MV} : cmpT T μ op (.tup a) y = R.opt (cmpM μ op (.tup a) y) μ := Eq.trans rfl rfl
@[simp] theorem cmpT_ref {op : CmpOp} {a : Nat} {y : MV} : cmpT T μ op (.ref a) y = R.opt (cmpM μ op (.ref a) y) μ := Eq.trans rfl rfl
theorem othC_dat {P : Prog} {c : Nat} {v : MV} (hv : DatM μ v) (h : othB c μ v = true) : othC P c μ v = true := by
  cases v <;> simp only [DatM] at hv <;> exact h
theorem othC_self {P : Prog} {c : Nat} {vs : List MV} : othC P c μ (.obj c vs) = true := by simp [othC]
theorem cmpT_obj {op : CmpOp} {c f : Nat} {vs : List MV} {y : MV} {k : Bool} {ν : Mem} (hn : notEqO op = false) (hm : (cmName op).bind (methOf T.P c) = some f) (ho : othC T.P c μ y = true) (h : T.call f [.obj c vs, y] μ = .ok (.bl k) ν) : cmpT T μ op (.obj c vs) y = .ok k ν := by
  simp only [cmpT, hn, Bool.false_eq_true, if_false, hm, ho, if_true, h, bind_ok']
theorem cmpT_ne {c f : Nat} {vs : List MV} {y : MV} {k : Bool} {ν : Mem} (hm : methOf T.P c "__eq__" = some f) (hn : methOf T.P c "__ne__" = none) (ho : othC T.P c μ y = true) (h : T.call f [.obj c vs, y] μ = .ok (.bl k) ν) : cmpT T μ .NotEq (.obj c vs) y = .ok (!k) ν := by
  simp only [cmpT, show notEqO .NotEq = true from rfl, if_true, hm, hn, Option.isNone_none, Bool.true_and, ho, h, bind_ok']
@[simp] theorem strT_int {a : Int} : strT T μ (.int a) = biM μ .str [.int a] := Eq.trans rfl rfl
theorem strT_obj {c f : Nat} {vs : List MV} {s : Str} {ν : Mem} (hm : methOf T.P c "__str__" = some f) (h : T.call f [.obj c vs] μ = .ok (.str s) ν) : strT T μ (.obj c vs) = .ok (.str s) ν := by
  simp only [strT, hm, h, bind_ok']
theorem S_raise {c : Nat} {as : List E} {xs : List MV} {ν : Mem} {x : MX} (h : evEs T as σ μ = .ok xs ν) (hm : mkX T.P c xs = some x) : evS T (.raise c as) σ μ = .exc x σ ν := by
  simp only [evS, h, stm_ok', hm]
theorem S_setf {f : Str} {e : E} {v : MV} {ν : Mem} {c : Nat} {vs : List MV} {C : ClsM} (h : evE T e σ μ = .ok v ν) (h0 : σ[0]? = some (some (.obj c vs))) (hc : T.P.clss[c]? = some C) (hf : C.fields[vs.length]? = some f) : evS T (.setf f e) σ μ = .ok (.next (σ.set 0 (some (.obj c (vs ++ [v]))))) ν := by
  simp only [evS, h, stm_ok', h0, hc, hf, if_true]
theorem small_int {a : Int} {n : Nat} (h : a.natAbs.log2 < 1920) : biM μ .str [.int a] = .ok (.str (toString a : String)) μ := if_pos h
theorem fmt_int {a : Int} (h : a.natAbs.log2 < 1920) : fmtM μ (.int a) = .ok (.str (toString a : String)) μ := if_pos h
end
end Mch

/-! ## Fractions of ints, in lowest terms -/
namespace Mch
def upI (b : Int) : Int := if 0 < b then 1 else -1
/-- n over d is a over b, in lowest terms -/
structure Frac (a b n d : Int) : Prop where
  pos : 0 < d
  cop : Int.gcd n d = 1
  ex : ∃ g : Int, 0 < g ∧ upI b * a = g * n ∧ (b.natAbs : Int) = g * d
def rN (a b : Int) : Int := if 0 < b then a.fdiv (Int.gcd a b : Nat) else (-a).fdiv (Int.gcd a b : Nat)
def rD (a b : Int) : Int := (b.natAbs : Int).fdiv (Int.gcd a b : Nat)
theorem up_abs {b : Int} (hb : b ≠ 0) : b * upI b = (b.natAbs : Int) := by
  unfold upI
  split <;> omega
theorem up_sq (b : Int) : upI b * upI b = 1 := by
  unfold upI
  split <;> rfl
theorem gcd_abs (n m : Int) : Int.gcd n (m.natAbs : Int) = Int.gcd n m := by
  unfold Int.gcd
  rw [Int.natAbs_natCast]
theorem dvd_cop {d n k : Int} (h : d ∣ n * k) (hc : Int.gcd n d = 1) : d ∣ k := by
  have h1 := Int.natAbs_dvd_natAbs.mpr h
  rw [Int.natAbs_mul] at h1
  have h2 : Nat.Coprime d.natAbs n.natAbs := by
    unfold Nat.Coprime
    rw [Nat.gcd_comm]
    exact hc
  exact Int.natAbs_dvd_natAbs.mp (h2.dvd_of_dvd_mul_left h1)
theorem frac_make {a b : Int} (hb : b ≠ 0) : Frac a b (rN a b) (rD a b) := by
  have hg : 0 < Int.gcd a b := Int.gcd_pos_of_ne_zero_right _ hb
  have hgz : ((Int.gcd a b : Nat) : Int) ≠ 0 := by omega
  obtain ⟨n, hn⟩ := Int.gcd_dvd_left a b
  obtain ⟨m, hm⟩ := Int.gcd_dvd_right a b
  have hcop : Int.gcd n m = 1 := by
    have h1 : Int.gcd a b = Int.gcd ((Int.gcd a b : Nat) * n) ((Int.gcd a b : Nat) * m) := by rw [← hn, ← hm]
    rw [Int.gcd_mul_left] at h1
    have h2 : (((Int.gcd a b : Nat) : Int).natAbs) = Int.gcd a b := by simp
    rw [h2] at h1
    have h3 : Int.gcd a b * 1 = Int.gcd a b * Int.gcd n m := by omega
    exact (Nat.eq_of_mul_eq_mul_left hg h3).symm
  generalize hG : ((Int.gcd a b : Nat) : Int) = g at hn hm hgz
  have hgp : 0 < g := by omega
  have hab : (b.natAbs : Int) = g * (m.natAbs : Int) := by
    rw [hm, Int.natAbs_mul, Int.natCast_mul, Int.natAbs_of_nonneg (Int.le_of_lt hgp)]
  have hD : rD a b = (m.natAbs : Int) := by
    unfold rD
    rw [hG, hab, Int.mul_fdiv_cancel_left _ hgz]
  have hm0 : m ≠ 0 := by
    rintro rfl
    rw [Int.mul_zero] at hm
    exact hb hm
  have hN : rN a b = upI b * n := by
    unfold rN upI
    rw [hG]
    split
    · rw [hn, Int.mul_fdiv_cancel_left _ hgz, Int.one_mul]
    · rw [hn, ← Int.mul_neg, Int.mul_fdiv_cancel_left _ hgz]
      omega
  refine ⟨by rw [hD]; omega, ?_, g, hgp, ?_, by rw [hD]; exact hab⟩
  · rw [hD, hN]
    unfold upI
    split
    · rw [Int.one_mul, gcd_abs]
      exact hcop
    · have e : -1 * n = -n := by omega
      rw [e, gcd_abs, Int.neg_gcd]
      exact hcop
  · rw [hN, hn, ← Int.mul_assoc, ← Int.mul_assoc, Int.mul_comm (upI b) g]
section
variable {a b n d c e m k : Int}
/-- n over d = a over b -/
theorem Frac.eq (h : Frac a b n d) (hb : b ≠ 0) : n * b = a * d := by
  obtain ⟨g, hg, h1, h2⟩ := h.ex
  have h3 := up_abs hb
  have h4 := up_sq b
  have key : (n * b) * g = (a * d) * g := by grind
  exact Int.eq_of_mul_eq_mul_right (by omega) key
/-- the fraction is known by its value -/
theorem Frac.same (h : Frac a b n d) (h' : Frac c e m k) (hb : b ≠ 0) (he : e ≠ 0) : (n = m ∧ d = k) ↔ a * e = b * c := by
  have e1 := h.eq hb
  have e2 := h'.eq he
  have p1 := h.pos
  have p2 := h'.pos
  constructor
  · rintro ⟨rfl, rfl⟩
    have key : (a * e) * d = (b * c) * d := by grind
    exact Int.eq_of_mul_eq_mul_right (by omega) key
  · intro hx
    have hz : b * e ≠ 0 := Int.mul_ne_zero hb he
    have key : (n * k) * (b * e) = (m * d) * (b * e) := by grind
    have hc := Int.eq_of_mul_eq_mul_right hz key
    have d1 : d ∣ k := by
      have : d ∣ n * k := ⟨m, by rw [hc, Int.mul_comm]⟩
      exact dvd_cop this h.cop
    have d2 : k ∣ d := by
      have : k ∣ m * d := ⟨n, by rw [← hc, Int.mul_comm]⟩
      exact dvd_cop this h'.cop
    have dk : d = k := Int.le_antisymm (Int.le_of_dvd p2 d1) (Int.le_of_dvd p1 d2)
    subst dk
    exact ⟨Int.eq_of_mul_eq_mul_right (by omega) hc, rfl⟩
theorem Frac.lt (h : Frac a b n d) (h' : Frac c e m k) (hb : b ≠ 0) (he : 0 < e) : n * k < m * d ↔ a * e * upI b < c * b * upI b := by
  obtain ⟨g, hg, h1, h2⟩ := h.ex
  have e2 := h'.eq (by omega)
  have h3 := up_abs hb
  have p1 := h.pos
  have p2 := h'.pos
  -- both sides times a positive number
  have l1 : (n * k) * (g * e) = (a * e * upI b) * k := by grind
  have l2 : (m * d) * (g * e) = (c * b * upI b) * k := by grind
  have hge : 0 < g * e := Int.mul_pos hg he
  constructor
  · intro hx
    have := Int.mul_lt_mul_of_pos_right hx hge
    rw [l1, l2] at this
    exact Int.lt_of_mul_lt_mul_right this (by omega)
  · intro hx
    have := Int.mul_lt_mul_of_pos_right hx p2
    rw [← l1, ← l2] at this
    exact Int.lt_of_mul_lt_mul_right this (by omega)
theorem Frac.floor (h : Frac a b n d) (hb : b ≠ 0) : n.fdiv d = (a * upI b).fdiv (b.natAbs : Int) := by
  obtain ⟨g, hg, h1, h2⟩ := h.ex
  rw [h2, Int.mul_comm a, h1, Int.mul_fdiv_mul_of_pos _ _ hg]
theorem Frac.pos_iff (h : Frac a b n d) : 0 < n ↔ 0 < a * upI b := by
  obtain ⟨g, hg, h1, h2⟩ := h.ex
  rw [Int.mul_comm a, h1]
  constructor
  · exact fun hn => Int.mul_pos hg hn
  · exact fun hn => Int.pos_of_mul_pos_right hn (by omega)
theorem Frac.neg_iff (h : Frac a b n d) : n < 0 ↔ a * upI b < 0 := by
  obtain ⟨g, hg, h1, h2⟩ := h.ex
  rw [Int.mul_comm a, h1]
  constructor
  · exact fun hn => Int.mul_neg_of_pos_of_neg hg hn
  · intro hn
    by_cases hz : n < 0
    · exact hz
    · have : 0 ≤ g * n := Int.mul_nonneg (by omega) (by omega)
      omega
theorem Frac.zero_iff (h : Frac a b n d) (hb : b ≠ 0) : n = 0 ↔ a = 0 := by
  have := h.eq hb
  have p := h.pos
  constructor
  · rintro rfl
    rw [Int.zero_mul] at this
    rcases Int.mul_eq_zero.mp this.symm with z | z
    · exact z
    · omega
  · rintro rfl
    rw [Int.zero_mul] at this
    rcases Int.mul_eq_zero.mp this with z | z
    · exact z
    · exact absurd z hb
theorem Frac.whole_iff (h : Frac a b n d) (hb : b ≠ 0) : d = 1 ↔ a.fmod (b.natAbs : Int) = 0 := by
  have h0 := h.eq hb
  have p := h.pos
  have hdv : a.fmod (b.natAbs : Int) = 0 ↔ b ∣ a := by
    rw [← Int.natAbs_dvd (a := b)]
    exact (Int.dvd_iff_fmod_eq_zero ..).symm
  rw [hdv]
  constructor
  · rintro rfl
    exact ⟨n, by rw [Int.mul_comm, h0, Int.mul_one]⟩
  · rintro ⟨q, rfl⟩
    have key : n * b = (q * d) * b := by grind
    have hn := Int.eq_of_mul_eq_mul_right hb key
    have hc := h.cop
    rw [hn, Int.gcd_mul_left_left] at hc
    omega
/-- sums, differences, products -/
theorem Frac.fits (h : Frac a b n d) (h' : Frac c e m k) (hb : b ≠ 0) (he : e ≠ 0) {s u v : Int} (hs : Frac (n * k + m * d) (d * k) u v) : u * (b * e) = (a * e + c * b) * v := by
  have e1 := h.eq hb
  have e2 := h'.eq he
  have p1 := h.pos
  have p2 := h'.pos
  have hz : d * k ≠ 0 := Int.mul_ne_zero (by omega) (by omega)
  have e3 := hs.eq hz
  have key : (u * (b * e)) * (d * k) = ((a * e + c * b) * v) * (d * k) := by grind
  exact Int.eq_of_mul_eq_mul_right hz key
theorem Frac.sub (h : Frac a b n d) (h' : Frac c e m k) (hb : b ≠ 0) (he : e ≠ 0) {u v : Int} (hs : Frac (n * k - m * d) (d * k) u v) : u * (b * e) = (a * e - c * b) * v := by
  have e1 := h.eq hb
  have e2 := h'.eq he
  have p1 := h.pos
  have p2 := h'.pos
  have hz : d * k ≠ 0 := Int.mul_ne_zero (by omega) (by omega)
  have e3 := hs.eq hz
  have key : (u * (b * e)) * (d * k) = ((a * e - c * b) * v) * (d * k) := by grind
  exact Int.eq_of_mul_eq_mul_right hz key
theorem Frac.mul (h : Frac a b n d) (h' : Frac c e m k) (hb : b ≠ 0) (he : e ≠ 0) {u v : Int} (hs : Frac (n * m) (d * k) u v) : u * (b * e) = (a * c) * v := by
  have e1 := h.eq hb
  have e2 := h'.eq he
  have p1 := h.pos
  have p2 := h'.pos
  have hz : d * k ≠ 0 := Int.mul_ne_zero (by omega) (by omega)
  have e3 := hs.eq hz
  have key : (u * (b * e)) * (d * k) = ((a * c) * v) * (d * k) := by grind
  exact Int.eq_of_mul_eq_mul_right hz key
theorem Frac.over (h : Frac a b n d) (h' : Frac c e m k) (hb : b ≠ 0) (he : e ≠ 0) (hc : c ≠ 0) {u v : Int} (hs : Frac (n * k) (d * m) u v) : u * (b * c) = (a * e) * v := by
  have e1 := h.eq hb
  have e2 := h'.eq he
  have p1 := h.pos
  have p2 := h'.pos
  have hm : m ≠ 0 := fun z => hc ((h'.zero_iff he).mp z)
  have hz : d * m ≠ 0 := Int.mul_ne_zero (by omega) hm
  have e3 := hs.eq hz
  have key : (u * (b * c)) * (d * m * k) = ((a * e) * v) * (d * m * k) := by grind
  exact Int.eq_of_mul_eq_mul_right (Int.mul_ne_zero hz (by omega)) key
theorem Frac.neg (h : Frac a b n d) (hb : b ≠ 0) {u v : Int} (hs : Frac (-n) d u v) : u * b = (-a) * v := by
  have e1 := h.eq hb
  have p1 := h.pos
  have e3 := hs.eq (by omega)
  have key : (u * b) * d = ((-a) * v) * d := by grind
  exact Int.eq_of_mul_eq_mul_right (by omega) key
theorem Frac.times (h : Frac a b n d) (hb : b ≠ 0) {u v t : Int} (hs : Frac (n * t) d u v) : u * b = (a * t) * v := by
  have e1 := h.eq hb
  have p1 := h.pos
  have e3 := hs.eq (by omega)
  have key : (u * b) * d = ((a * t) * v) * d := by grind
  exact Int.eq_of_mul_eq_mul_right (by omega) key
theorem Frac.size (h : Frac a b n d) (hb : b ≠ 0) {u v : Int} (hs : Frac (n.natAbs : Int) d u v) : u * (b.natAbs : Int) = (a.natAbs : Int) * v := by
  obtain ⟨g, hg, h1, h2⟩ := h.ex
  have p1 := h.pos
  have e3 := hs.eq (by omega)
  have h4 : (a.natAbs : Int) = g * (n.natAbs : Int) := by
    have h5 : (upI b * a).natAbs = (g * n).natAbs := by rw [h1]
    rw [Int.natAbs_mul, Int.natAbs_mul] at h5
    have h6 : (upI b).natAbs = 1 := by unfold upI; split <;> rfl
    rw [h6, Nat.one_mul] at h5
    rw [h5, Int.natCast_mul, Int.natAbs_of_nonneg (Int.le_of_lt hg)]
  have key : (u * (b.natAbs : Int)) * d = ((a.natAbs : Int) * v) * d := by grind
  exact Int.eq_of_mul_eq_mul_right (by omega) key
/-- how big -/
theorem Frac.bd (h : Frac a b n d) (hb : b ≠ 0) : d ≤ (b.natAbs : Int) ∧ n.natAbs ≤ a.natAbs := by
  obtain ⟨g, hg, h1, h2⟩ := h.ex
  have p1 := h.pos
  constructor
  · rw [h2]
    have := Int.mul_le_mul_of_nonneg_right (show 1 ≤ g by omega) (show 0 ≤ d by omega)
    omega
  · have h5 : (upI b * a).natAbs = (g * n).natAbs := by rw [h1]
    rw [Int.natAbs_mul, Int.natAbs_mul] at h5
    have h6 : (upI b).natAbs = 1 := by unfold upI; split <;> rfl
    rw [h6, Nat.one_mul] at h5
    rw [h5]
    exact Nat.le_mul_of_pos_left _ (by omega)
end
end Mch

/-! ## k03: what the machine's program does -/
namespace Mch.k03
open PySem Mch
abbrev T (d : Nat) : Tab := tabD prog 100000 d
@[simp] theorem TP (d : Nat) : (T d).P = prog := by cases d <;> rfl
@[simp] theorem Tn (d : Nat) : (T d).n = 100000 := by cases d <;> rfl
theorem sl : sizeLine = 16777216 := by decide
theorem run0 (d : Nat) (args : List MV) (μ : Mem) : (T (d + 1)).call 0 args μ = runD (T d) d0 args μ := rfl
theorem run2 (d : Nat) (args : List MV) (μ : Mem) : (T (d + 1)).call 2 args μ = runD (T d) d2 args μ := rfl
theorem run3 (d : Nat) (args : List MV) (μ : Mem) : (T (d + 1)).call 3 args μ = runD (T d) d3 args μ := rfl
theorem run4 (d : Nat) (args : List MV) (μ : Mem) : (T (d + 1)).call 4 args μ = runD (T d) d4 args μ := rfl
theorem run5 (d : Nat) (args : List MV) (μ : Mem) : (T (d + 1)).call 5 args μ = runD (T d) d5 args μ := rfl
theorem run7 (d : Nat) (args : List MV) (μ : Mem) : (T (d + 1)).call 7 args μ = runD (T d) d7 args μ := rfl
theorem run8 (d : Nat) (args : List MV) (μ : Mem) : (T (d + 1)).call 8 args μ = runD (T d) d8 args μ := rfl
theorem run9 (d : Nat) (args : List MV) (μ : Mem) : (T (d + 1)).call 9 args μ = runD (T d) d9 args μ := rfl
theorem run10 (d : Nat) (args : List MV) (μ : Mem) : (T (d + 1)).call 10 args μ = runD (T d) d10 args μ := rfl
theorem run11 (d : Nat) (args : List MV) (μ : Mem) : (T (d + 1)).call 11 args μ = runD (T d) d11 args μ := rfl
theorem run12 (d : Nat) (args : List MV) (μ : Mem) : (T (d + 1)).call 12 args μ = runD (T d) d12 args μ := rfl
theorem run13 (d : Nat) (args : List MV) (μ : Mem) : (T (d + 1)).call 13 args μ = runD (T d) d13 args μ := rfl
theorem run14 (d : Nat) (args : List MV) (μ : Mem) : (T (d + 1)).call 14 args μ = runD (T d) d14 args μ := rfl
theorem run15 (d : Nat) (args : List MV) (μ : Mem) : (T (d + 1)).call 15 args μ = runD (T d) d15 args μ := rfl
theorem run16 (d : Nat) (args : List MV) (μ : Mem) : (T (d + 1)).call 16 args μ = runD (T d) d16 args μ := rfl
theorem run17 (d : Nat) (args : List MV) (μ : Mem) : (T (d + 1)).call 17 args μ = runD (T d) d17 args μ := rfl
theorem run18 (d : Nat) (args : List MV) (μ : Mem) : (T (d + 1)).call 18 args μ = runD (T d) d18 args μ := rfl
theorem run19 (d : Nat) (args : List MV) (μ : Mem) : (T (d + 1)).call 19 args μ = runD (T d) d19 args μ := rfl
theorem run20 (d : Nat) (args : List MV) (μ : Mem) : (T (d + 1)).call 20 args μ = runD (T d) d20 args μ := rfl
theorem run21 (d : Nat) (args : List MV) (μ : Mem) : (T (d + 1)).call 21 args μ = runD (T d) d21 args μ := rfl
theorem run23 (d : Nat) (args : List MV) (μ : Mem) : (T (d + 1)).call 23 args μ = runD (T d) d23 args μ := rfl
theorem run24 (d : Nat) (args : List MV) (μ : Mem) : (T (d + 1)).call 24 args μ = runD (T d) d24 args μ := rfl
theorem run25 (d : Nat) (args : List MV) (μ : Mem) : (T (d + 1)).call 25 args μ = runD (T d) d25 args μ := rfl
theorem run26 (d : Nat) (args : List MV) (μ : Mem) : (T (d + 1)).call 26 args μ = runD (T d) d26 args μ := rfl
theorem run27 (d : Nat) (args : List MV) (μ : Mem) : (T (d + 1)).call 27 args μ = runD (T d) d27 args μ := rfl
theorem run28 (d : Nat) (args : List MV) (μ : Mem) : (T (d + 1)).call 28 args μ = runD (T d) d28 args μ := rfl
theorem run29 (d : Nat) (args : List MV) (μ : Mem) : (T (d + 1)).call 29 args μ = runD (T d) d29 args μ := rfl
theorem run30 (d : Nat) (args : List MV) (μ : Mem) : (T (d + 1)).call 30 args μ = runD (T d) d30 args μ := rfl
theorem run31 (d : Nat) (args : List MV) (μ : Mem) : (T (d + 1)).call 31 args μ = runD (T d) d31 args μ := rfl
theorem run32 (d : Nat) (args : List MV) (μ : Mem) : (T (d + 1)).call 32 args μ = runD (T d) d32 args μ := rfl
theorem run33 (d : Nat) (args : List MV) (μ : Mem) : (T (d + 1)).call 33 args μ = runD (T d) d33 args μ := rfl
theorem run34 (d : Nat) (args : List MV) (μ : Mem) : (T (d + 1)).call 34 args μ = runD (T d) d34 args μ := rfl
theorem run35 (d : Nat) (args : List MV) (μ : Mem) : (T (d + 1)).call 35 args μ = runD (T d) d35 args μ := rfl
theorem run36 (d : Nat) (args : List MV) (μ : Mem) : (T (d + 1)).call 36 args μ = runD (T d) d36 args μ := rfl
theorem run37 (d : Nat) (args : List MV) (μ : Mem) : (T (d + 1)).call 37 args μ = runD (T d) d37 args μ := rfl
theorem run38 (d : Nat) (args : List MV) (μ : Mem) : (T (d + 1)).call 38 args μ = runD (T d) d38 args μ := rfl
theorem run39 (d : Nat) (args : List MV) (μ : Mem) : (T (d + 1)).call 39 args μ = runD (T d) d39 args μ := rfl
theorem run40 (d : Nat) (args : List MV) (μ : Mem) : (T (d + 1)).call 40 args μ = runD (T d) d40 args μ := rfl
theorem run41 (d : Nat) (args : List MV) (μ : Mem) : (T (d + 1)).call 41 args μ = runD (T d) d41 args μ := rfl
theorem run42 (d : Nat) (args : List MV) (μ : Mem) : (T (d + 1)).call 42 args μ = runD (T d) d42 args μ := rfl
theorem run43 (d : Nat) (args : List MV) (μ : Mem) : (T (d + 1)).call 43 args μ = runD (T d) d43 args μ := rfl
theorem run44 (d : Nat) (args : List MV) (μ : Mem) : (T (d + 1)).call 44 args μ = runD (T d) d44 args μ := rfl
theorem run45 (d : Nat) (args : List MV) (μ : Mem) : (T (d + 1)).call 45 args μ = runD (T d) d45 args μ := rfl
/-- is_integer -/
theorem is_integer (d : Nat) {v : MV} {μ : Mem} (h : DatM μ v) : (T (d + 1)).call 2 [v] μ = .ok (.bl (isIntM v)) μ := by
  rw [run2]
  simp only [runD, d2, fullArgs, slots]
  cases v <;> simp only [DatM] at h <;> (try obtain ⟨xs, h⟩ := h) <;> simp [tysM, tyM, isIntM, *]
/-- _law_is_whole -/
theorem law_is_whole (d : Nat) {v : MV} {μ : Mem} (h : DatM μ v) : (T (d + 1)).call 39 [v] μ = .ok (.bl (isIntM v)) μ := by
  rw [run39]
  simp only [runD, d39, fullArgs, slots]
  cases v <;> simp only [DatM] at h <;> (try obtain ⟨xs, h⟩ := h) <;> simp [tysM, tyM, isIntM, *]
/-! ### the draws -/
/-- the state of the draws stands at i -/
def St (i : Nat) (μ : Mem) : Prop := ∃ s t : Int, μ[i]? = some (.lst [.int s, .int t]) ∧ 0 ≤ s
/-- _law_take -/
theorem law_take (d : Nat) {i : Nat} {μ : Mem} {m : Int} (h : St i μ) (hm : 0 < m ∧ m < 1073741824) : ((T (d + 1)).call 37 [.ref i, .int m] μ).To fun r ν => ∃ x : Int, r = .int x ∧ 0 ≤ x ∧ x < m ∧ St i ν ∧ Grow [i] μ ν := by
  obtain ⟨s, t, h1, h2⟩ := h
  have hi : i < μ.length := (List.getElem?_eq_some_iff.mp h1).1
  have hl : lstAt μ i = some [.int s, .int t] := by unfold lstAt; rw [h1]
  have hd : divOk m = true := divOk_s (by omega) (by omega)
  have hd7 : divOk 7 = true := by decide
  have hm0 : m ≠ 0 := by omega
  have hg : ∀ c, Grow [i] μ (μ.set i c) := fun c => ⟨by simp, fun j hj hn => List.getElem?_set_ne (by simp at hn; exact fun e => hn e.symm)⟩
  have i0 : idxM μ (.ref i) (.int 0) = some (.int s) := by simp [idxM, hl, ixM]
  have i1 : idxM μ (.ref i) (.int 1) = some (.int t) := by simp [idxM, hl, ixM]
  rw [run37]
  refine runD_to rfl rfl ?_
  simp only [d37, slots]
  by_cases hs : 0 < s
  · have hset : ∀ v, setM μ (.ref i) (.int 0) v = .ok () (μ.set i (.lst [v, .int t])) := fun v => by simp [setM, h1, ixM]
    simp [i0, hs, bin_mod hm0, bin_div hd, hset]
    refine ⟨Int.fmod_nonneg_of_pos _ hm.1, Int.fmod_lt_of_pos _ hm.1, ⟨s.fdiv m, t, by rw [List.getElem?_set_self hi], ?_⟩, hg _⟩
    exact Int.fdiv_nonneg (by omega) (by omega)
  · generalize ht : (t * 48271 + 11).fmod 2147483647 = t'
    have hset : ∀ v, setM μ (.ref i) (.int 1) v = .ok () (μ.set i (.lst [.int s, v])) := fun v => by simp [setM, h1, ixM]
    have i1' : idxM (μ.set i (.lst [.int s, .int t'])) (.ref i) (.int 1) = some (.int t') := by simp [idxM, lstAt, hi, ixM]
    have hmul : mulOk t 48271 = true := mulOk_r (by decide)
    simp [i0, i1, hs, bin_mul hmul, bin_mod (show (2147483647 : Int) ≠ 0 by decide), hset, ht, i1', bin_div hd7, bin_mod hm0]
    exact ⟨Int.fmod_nonneg_of_pos _ hm.1, Int.fmod_lt_of_pos _ hm.1, ⟨s, t', by rw [List.getElem?_set_self hi], h2⟩, hg _⟩
/-- _law_state -/
theorem law_state (d : Nat) {a : Nat} {ns : List Int} {μ : Mem} (hl : ns.length ≤ 63) (h : lstAt μ a = some (ns.map MV.int)) : ((T (d + 1)).call 36 [.ref a] μ).To fun r ν => ∃ i, r = .ref i ∧ St i ν ∧ Grow [] μ ν := by
  rw [run36]
  refine runD_to rfl rfl ?_
  simp only [d36, slots]
  have hcut : cutM (ns.map MV.int) none (some 63) = ns.map MV.int := by
    unfold cutM sIxM
    simp only [List.length_map, List.drop_zero, Nat.sub_zero]
    rw [if_neg (by omega), List.take_of_length_le]
    simp
    omega
  have hsl : slcM μ (.ref a) none (some 63) = .ok (.ref μ.length) (μ ++ [.lst (ns.map MV.int)]) := by
    simp only [slcM, h, hcut]
    exact newL_ok' (by rw [sl]; simp; omega)
  simp only [List.map_cons, List.map_nil, List.length_cons, List.length_nil, Nat.reduceSub, Nat.reduceAdd, List.replicate, List.cons_append, List.nil_append, B_cons, S_asg, E_int, stm_ok', A_var, calm_ok', go_next, List.set_cons_zero, List.set_cons_succ]
  refine RS.To.go ?_
  have hit : items (μ ++ [.lst (ns.map MV.int)]) (.ref μ.length) = some (ns.map MV.int) := lstAt_new
  have h63 : partR false (R.ok (MV.int 63) μ) μ = .ok (some 63) μ := rfl
  have hno : partR true (R.ok MV.non μ) μ = .ok none μ := rfl
  simp only [S_for, E_slc, E_var0, E_non, E_int, E.isNon, bind_ok', h63, hno, hsl, stm_ok', itM_items hit]
  refine forL_to (xs := ns.map MV.int) (I := fun i σ ν => ∃ (s t : Int) (o : Option MV), σ = [some (.ref a), some (.int s), some (.int t), o] ∧ 0 ≤ s ∧ ν = μ ++ [.lst (ns.map MV.int)]) (fun i σ ν hI => ?_) (fun i x σ ν hx hI => ?_) (fun σ ν hI => ?_) _ 0 _ _ (Nat.zero_le _) (by rw [Tn]; simp; omega) ⟨0, 1, none, rfl, by omega, rfl⟩
  · obtain ⟨s, t, o, rfl, hs, rfl⟩ := hI
    exact nth_items hit i
  · obtain ⟨s, t, o, rfl, hs, rfl⟩ := hI
    rw [List.getElem?_map] at hx
    obtain ⟨z, _, rfl⟩ := Option.map_eq_some_iff.mp hx
    refine ⟨_, by simp only [T_var, List.set_cons_zero, List.set_cons_succ]; rfl, ?_⟩
    simp only [B_cons, B_nil, S_asg, E_bin, E_bi, Es_cons, Es_nil, E_int, E_var0, E_varS, bind_ok', bin_add, bi_abs, bi_int, bin_mul (mulOk_r (show (1000003 : Int).natAbs < 2 ^ 64 by decide)), bin_mul (mulOk_r (show (48271 : Int).natAbs < 2 ^ 64 by decide)), bin_mod (show (2147483647 : Int) ≠ 0 by decide), stm_ok', A_var, calm_ok', go_next, List.set_cons_zero, List.set_cons_succ, STo_ok, turnT_next]
    exact ⟨_, _, _, rfl, by omega, by trivial⟩
  · obtain ⟨s, t, o, rfl, hs, rfl⟩ := hI
    have fin : ∀ t' : Int, ((R.ok (MV.ref (μ ++ [Cell.lst (ns.map MV.int)]).length) ((μ ++ [Cell.lst (ns.map MV.int)]) ++ [Cell.lst [MV.int s, MV.int t']]) : R MV)).To fun r ν => ∃ i, r = .ref i ∧ St i ν ∧ Grow [] μ ν := fun t' =>
      ⟨_, rfl, ⟨s, t', get_new, hs⟩, (Grow.app _ _ _).trans (Grow.app _ _ _)⟩
    simp only [goT_next, B_cons, B_nil, S_ret, E_lst, E_ite, E_cmp, Es_cons, Es_nil, E_var0, E_varS, E_int, bind_ok', cmp_nei, opt_some, tru_bl]
    by_cases ht : t = 1973665155
    · simp only [ht, decide_true, Bool.not_true, Bool.false_eq_true, if_false, bind_ok', newL2, stm_ok', go_ret, STo_ok, retT_ret]
      exact fin 7
    · simp only [ht, decide_false, Bool.not_false, if_true, bind_ok', newL2, stm_ok', go_ret, STo_ok, retT_ret]
      exact fin t
/-- _law_says -/
theorem law_says (d : Nat) {b c : Bool} {μ : Mem} : (T (d + 1)).call 38 [.bl b, .bl c] μ = .ok (.bl (decide (b = c))) μ := by
  rw [run38]
  refine R.To.is (runD_to rfl rfl ?_)
  simp only [d38, slots]
  simp [tysM, tyM]
/-- _law_same of ints -/
theorem law_same_int (d : Nat) {a b : Int} {μ : Mem} : (T (d + 2)).call 40 [.int a, .int b] μ = .ok (.bl (decide (a = b))) μ := by
  rw [run40]
  refine R.To.is (runD_to rfl rfl ?_)
  simp only [d40, slots]
  simp [tysM, tyM, cmpM, law_is_whole d (v := .int a) (μ := μ) trivial, isIntM]
theorem St.grow {i : Nat} {μ ν : Mem} (h : St i μ) (g : Grow [] μ ν) : St i ν := by
  obtain ⟨s, t, h1, h2⟩ := h
  exact ⟨s, t, g.get h1 (by simp), h2⟩
theorem St.lt {i : Nat} {μ : Mem} (h : St i μ) : i < μ.length := by
  obtain ⟨s, t, h1, _⟩ := h
  exact (List.getElem?_eq_some_iff.mp h1).1
/-- a draw, as an expression -/
theorem take_to {d i j : Nat} {σ : Env} {μ : Mem} {m : Int} (hj : σ[j]? = some (some (.ref i))) (h : St i μ) (hm : 0 < m ∧ m < 1073741824) : (evE (T (d + 1)) (.call 37 [.var j, .int m]) σ μ).To fun r ν => ∃ x : Int, r = .int x ∧ 0 ≤ x ∧ x < m ∧ St i ν ∧ Grow [i] μ ν := by
  simp only [E_call, Es_cons, Es_nil, E_var hj, E_int, bind_ok']
  exact law_take d h hm
/-- a statement that goes on with σ' -/
theorem go_to {T : Tab} {s : S} {b : List S} {σ : Env} {μ : Mem} {P : Fl → Mem → Prop} (Q : Env → Mem → Prop) (h : (evS T s σ μ).To fun f ν => ∃ σ', f = .next σ' ∧ Q σ' ν) (k : ∀ σ' ν, Q σ' ν → (evB T b σ' ν).To P) : (evB T (s :: b) σ μ).To P := by
  rw [B_cons]
  refine RS.To.go (h.imp fun f ν hf => ?_)
  obtain ⟨σ', rfl, q⟩ := hf
  exact k σ' ν q
/-- the names of the loop of rows -/
def Has (σ : Env) (k : Nat) (v : MV) : Prop := σ[k]? = some (some v)
theorem Has.ne {σ : Env} {k j : Nat} {v : MV} {o : Option MV} (h : Has σ k v) (n : j ≠ k) : Has (σ.set j o) k v := by
  unfold Has
  rw [List.getElem?_set_ne n]
  exact h
theorem Has.self {σ : Env} {k : Nat} {v : MV} (h : k < σ.length) : Has (σ.set k (some v)) k v := List.getElem?_set_self h
theorem Has.ev {σ : Env} {k : Nat} {v : MV} (h : Has σ k v) (T : Tab) (μ : Mem) : evE T (.var k) σ μ = .ok v μ := E_var h
/-- is_count -/
def inI (lo hi : Int) : MV → Bool
  | .int i => decide (lo ≤ i) && decide (i ≤ hi)
  | _ => false
theorem is_count (d : Nat) {v : MV} {lo hi : Int} {μ : Mem} (h : DatM μ v) : (T (d + 2)).call 3 [v, .int lo, .int hi] μ = .ok (.bl (inI lo hi v)) μ := by
  rw [run3]
  simp only [runD, d3, fullArgs, slots]
  cases v <;> simp [is_integer d h, isIntM, cmpM, inI]
  rename_i i
  by_cases h1 : lo ≤ i <;> simp [h1]
/-- check_count -/
theorem check_count (d : Nat) {v : MV} {lo hi : Int} {μ : Mem} (h : DatM μ v) : (T (d + 3)).call 4 [v, .int lo, .int hi] μ = if inI lo hi v then .ok .non μ else .exc ⟨1, []⟩ μ := by
  rw [run4]
  simp only [runD, d4, fullArgs, slots]
  simp [is_count d h, evS, mkX, prog, clss]
  cases inI lo hi v <;> simp
theorem make3 (d : Nat) (args : List MV) (μ : Mem) : (T (d + 1)).make 3 args μ = runI (T d) 3 2 d6 args μ := rfl
theorem make4 (d : Nat) (args : List MV) (μ : Mem) : (T (d + 1)).make 4 args μ = runI (T d) 4 3 d22 args μ := rfl
/-- common, of numbers of any size -/
theorem two_mul_mod {x y : Nat} (h : y ≤ x) (hy : 0 < y) : 2 * (x % y) < x := by
  have h1 := Nat.mod_lt x hy
  have h2 := Nat.div_add_mod x y
  have h3 : 1 ≤ x / y := (Nat.one_le_div_iff hy).mpr h
  have h4 : y ≤ y * (x / y) := Nat.le_mul_of_pos_right y h3
  omega
theorem common (d : Nat) {a b : Int} {μ : Mem} (ha : a.natAbs < 2 ^ 20000) (hb : b.natAbs < 2 ^ 20000) : (T (d + 1)).call 5 [.int a, .int b] μ = .ok (.int (Int.gcd a b : Nat)) μ := by
  rw [run5]
  refine R.To.is (runD_to rfl rfl ?_)
  simp only [d5, slots]
  simp only [List.map_cons, List.map_nil, List.length_cons, List.length_nil, Nat.sub_self, List.replicate_zero, List.append_nil, B_cons, S_asg, E_tup, Es_cons, Es_nil, E_bi, E_var0, E_varS, bind_ok', bi_abs, newT2, stm_ok', A_tup, Ag_cons, Ag_nil, A_var, if_true, calm_ok', go_next, List.set_cons_zero, List.set_cons_succ]
  refine RS.To.go ?_
  rw [S_while]
  refine whileL_to (I := fun m σ ν => ∃ x y : Nat, σ = [some (.int x), some (.int y)] ∧ ((y < 2 ^ 20000 ∧ x < 2 ^ 20000 ∧ m = 40001) ∨ (y < x ∧ x * y < 2 ^ m) ∨ (y = 0)) ∧ Nat.gcd x y = Int.gcd a b ∧ ν = μ) ?_ _ 40001 _ _ (by rw [Tn]; omega) ⟨a.natAbs, b.natAbs, rfl, .inl ⟨hb, ha, rfl⟩, rfl, rfl⟩
  rintro m σ ν ⟨x, y, rfl, hym, hg, rfl⟩
  simp only [E_cmp, E_var0, E_varS, E_int, bind_ok', cmp_gt, opt_some, tru_bl, To_ok]
  by_cases hy : 0 < y
  · have hy' : (0 : Int) < y := by omega
    rw [if_pos (by simpa using hy)]
    have hlt := Nat.mod_lt x hy
    have hstep : ∃ m', m = m' + 1 ∧ ((x % y < y ∧ y * (x % y) < 2 ^ m') ∨ x % y = 0) := by
      rcases hym with ⟨h1, h2, h3⟩ | ⟨h1, h2⟩ | h1
      · refine ⟨40000, by omega, .inl ⟨hlt, ?_⟩⟩
        have : y * (x % y) < 2 ^ 20000 * 2 ^ 20000 := Nat.mul_lt_mul'' h1 (by omega)
        rw [← Nat.pow_add] at this
        exact this
      · cases m with
        | zero =>
          exfalso
          have : 1 ≤ x * y := Nat.mul_pos (by omega) hy
          omega
        | succ m' =>
          refine ⟨m', rfl, .inl ⟨hlt, ?_⟩⟩
          have h4 := two_mul_mod (Nat.le_of_lt h1) hy
          have h5 : y * (2 * (x % y)) ≤ y * x := Nat.mul_le_mul_left y (by omega)
          rw [Nat.mul_comm y x] at h5
          rw [Nat.pow_succ] at h2
          have h6 : y * (2 * (x % y)) = 2 * (y * (x % y)) := Nat.mul_left_comm ..
          omega
      · omega
    obtain ⟨m', rfl, hm'⟩ := hstep
    refine ⟨m', rfl, ?_⟩
    have hm : (y : Int) ≠ 0 := by omega
    simp only [B_cons, B_nil, S_asg, E_tup, Es_cons, Es_nil, E_bin, E_var0, E_varS, bind_ok', bin_mod hm, newT2, stm_ok', A_tup, Ag_cons, Ag_nil, A_var, List.length_cons, List.length_nil, if_true, calm_ok', go_next, List.set_cons_zero, List.set_cons_succ, STo_ok, turnT]
    refine ⟨y, x % y, by rw [Int.ofNat_fmod], hm'.elim (fun h => .inr (.inl h)) (fun h => .inr (.inr h)), ?_, by trivial⟩
    rw [← hg, Nat.gcd_comm x y, Nat.gcd_rec y x, Nat.gcd_comm]
  · have : y = 0 := by omega
    subst this
    rw [if_neg (by simp)]
    simp only [goT_next, retT_ret, B_cons, B_nil, S_ret, E_var0, stm_ok', go_ret, STo_ok]
    rw [← hg, Nat.gcd_zero_right]
    exact ⟨rfl, by trivial⟩
end Mch.k03

/-! ## k03: Ratios as rationals -/
namespace Mch.k03
open PySem Mch
abbrev ob (n d : Int) : MV := .obj 3 [.int n, .int d]
abbrev oR (q : Rat) : MV := ob q.num (q.den : Int)
def zeroX : MX := ⟨2, [.str "zero"]⟩
def Bd (k : Nat) (q : Rat) : Prop := q.num.natAbs < 2 ^ k ∧ q.den < 2 ^ k
theorem frac_self (q : Rat) : Frac q.num q.den q.num q.den := by
  have hp : (0 : Int) < q.den := by have := q.den_pos; omega
  refine ⟨hp, ?_, 1, by decide, ?_, by omega⟩
  · exact q.reduced
  · unfold upI
    rw [if_pos hp]
theorem rat_is {a b : Int} (hb : b ≠ 0) : rN a b = (Rat.divInt a b).num ∧ rD a b = ((Rat.divInt a b).den : Int) := by
  have hd : ((Rat.divInt a b).den : Int) ≠ 0 := by have := (Rat.divInt a b).den_pos; omega
  refine ((frac_make hb).same (frac_self (Rat.divInt a b)) hb hd).mpr ?_
  have h1 := Rat.num_divInt_den (Rat.divInt a b)
  have h2 := (Rat.divInt_eq_divInt_iff hd hb).mp h1
  rw [← h2, Int.mul_comm]
theorem bd_of {a b : Int} {k : Nat} (hb : b ≠ 0) (h1 : a.natAbs < 2 ^ k) (h2 : b.natAbs < 2 ^ k) : Bd k (Rat.divInt a b) := by
  obtain ⟨e1, e2⟩ := rat_is (a := a) hb
  have := (frac_make (a := a) hb).bd hb
  rw [e1, e2] at this
  unfold Bd
  omega
theorem Bd.mono {k l : Nat} {q : Rat} (h : Bd k q) (hl : k ≤ l) : Bd l q := by
  have : 2 ^ k ≤ 2 ^ l := Nat.pow_le_pow_right (by decide) hl
  exact ⟨by have := h.1; omega, by have := h.2; omega⟩
theorem add_is (p q : Rat) : p + q = Rat.divInt (p.num * q.den + q.num * p.den) (p.den * q.den) := by
  have h1 : (p.den : Int) ≠ 0 := by have := p.den_pos; omega
  have h2 : (q.den : Int) ≠ 0 := by have := q.den_pos; omega
  rw [← Rat.divInt_add_divInt _ _ h1 h2, Rat.num_divInt_den, Rat.num_divInt_den]
theorem sub_is (p q : Rat) : p - q = Rat.divInt (p.num * q.den - q.num * p.den) (p.den * q.den) := by
  have h1 : (p.den : Int) ≠ 0 := by have := p.den_pos; omega
  have h2 : (q.den : Int) ≠ 0 := by have := q.den_pos; omega
  rw [← Rat.divInt_sub_divInt _ _ h1 h2, Rat.num_divInt_den, Rat.num_divInt_den]
theorem mul_is (p q : Rat) : p * q = Rat.divInt (p.num * q.num) (p.den * q.den) := by
  rw [← Rat.divInt_mul_divInt, Rat.num_divInt_den, Rat.num_divInt_den]
theorem neg_is (p : Rat) : -p = Rat.divInt (-p.num) p.den := by
  rw [← Rat.neg_divInt, Rat.num_divInt_den]
theorem int_is (t : Int) : (t : Rat) = Rat.divInt t 1 := by
  rw [Rat.divInt_eq_div]
  grind
theorem times_is (p : Rat) (t : Int) : p * (t : Rat) = Rat.divInt (p.num * t) p.den := by
  rw [int_is]
  have := Rat.divInt_mul_divInt p.num t (d₁ := (p.den : Int)) (d₂ := 1)
  rw [Rat.num_divInt_den, Int.mul_one] at this
  exact this
theorem over_is {p q : Rat} : p / q = Rat.divInt (p.num * q.den) (p.den * q.num) := by
  rw [Rat.div_def, ← Rat.divInt_mul_divInt, Rat.num_divInt_den, ← Rat.inv_divInt, Rat.num_divInt_den]
theorem nlt {x y k l : Nat} (h1 : x < 2 ^ k) (h2 : y < 2 ^ l) : x * y < 2 ^ (k + l) := by
  rw [Nat.pow_add]
  exact Nat.mul_lt_mul'' h1 h2
section
variable {k l : Nat} {p q : Rat}
theorem Bd.dd (hp : Bd k p) (hq : Bd l q) : ((p.den : Int) * q.den).natAbs < 2 ^ (k + l) := by
  rw [Int.natAbs_mul]
  exact nlt hp.2 hq.2
theorem Bd.nd (hp : Bd k p) (hq : Bd l q) : (p.num * (q.den : Int)).natAbs < 2 ^ (k + l) := by
  rw [Int.natAbs_mul]
  exact nlt hp.1 hq.2
theorem Bd.nn (hp : Bd k p) (hq : Bd l q) : (p.num * q.num).natAbs < 2 ^ (k + l) := by
  rw [Int.natAbs_mul]
  exact nlt hp.1 hq.1
theorem Bd.dn (hp : Bd k p) (hq : Bd l q) : ((p.den : Int) * q.num).natAbs < 2 ^ (k + l) := by
  rw [Int.natAbs_mul]
  exact nlt hp.2 hq.1
theorem dz (p q : Rat) : ((p.den : Int) * q.den) ≠ 0 := by
  have h1 := p.den_pos
  have h2 := q.den_pos
  exact Int.mul_ne_zero (by omega) (by omega)
theorem Bd.cross (hp : Bd k p) (hq : Bd l q) : (p.num * q.den + q.num * p.den).natAbs < 2 ^ (k + l + 1) ∧ (p.num * q.den - q.num * p.den).natAbs < 2 ^ (k + l + 1) := by
  have h1 := hp.nd hq
  have h2 := hq.nd hp
  rw [Nat.add_comm l k] at h2
  rw [Nat.pow_succ]
  omega
theorem pow1 (n : Nat) : 2 ^ n ≤ 2 ^ (n + 1) := Nat.pow_le_pow_right (by decide) (by omega)
theorem Bd.add (hp : Bd k p) (hq : Bd l q) : Bd (k + l + 1) (p + q) := by
  rw [add_is]
  exact bd_of (dz p q) (hp.cross hq).1 (Nat.lt_of_lt_of_le (hp.dd hq) (pow1 _))
theorem Bd.sub (hp : Bd k p) (hq : Bd l q) : Bd (k + l + 1) (p - q) := by
  rw [sub_is]
  exact bd_of (dz p q) (hp.cross hq).2 (Nat.lt_of_lt_of_le (hp.dd hq) (pow1 _))
theorem Bd.mul (hp : Bd k p) (hq : Bd l q) : Bd (k + l) (p * q) := by
  rw [mul_is]
  exact bd_of (dz p q) (hp.nn hq) (hp.dd hq)
theorem Bd.neg (hp : Bd k p) : Bd k (-p) := by
  rw [neg_is]
  exact bd_of (by have := p.den_pos; omega) (by have := hp.1; omega) (by have := hp.2; omega)
theorem Bd.times (hp : Bd k p) {t : Int} (ht : t.natAbs < 2 ^ l) : Bd (k + l) (p * (t : Rat)) := by
  rw [times_is]
  refine bd_of (by have := p.den_pos; omega) ?_ ?_
  · rw [Int.natAbs_mul]
    exact nlt hp.1 ht
  · have := Nat.pow_le_pow_right (n := 2) (by decide) (Nat.le_add_right k l)
    have := hp.2
    omega
theorem Bd.over (hp : Bd k p) (hq : Bd l q) (h0 : q ≠ 0) : Bd (k + l) (p / q) := by
  rw [over_is]
  have h1 : q.num ≠ 0 := fun z => h0 (Rat.num_eq_zero.mp z)
  exact bd_of (Int.mul_ne_zero (by have := p.den_pos; omega) h1) (hp.nd hq) (hp.dn hq)
end
/-! ### the machine -/
theorem log_lt {n k : Nat} (h : n < 2 ^ k) (hk : 0 < k) : n.log2 < k := by
  by_cases h0 : n = 0
  · subst h0
    exact hk
  · exact (Nat.log2_lt h0).mpr h
theorem mulOk_b {i j : Int} (hi : i.natAbs < 2 ^ 8000) (hj : j.natAbs < 2 ^ 8000) : mulOk i j = true := by
  unfold mulOk
  have h1 := log_lt hi (by decide)
  have h2 := log_lt hj (by decide)
  have : i.natAbs.log2 + j.natAbs.log2 < 1000000 := by omega
  simp [this]
theorem divOk_b {j : Int} (h0 : 0 < j) (hj : j.natAbs < 2 ^ 8000) : divOk j = true := by
  unfold divOk
  have h2 := log_lt hj (by decide)
  have : j.natAbs.log2 < 9000 := by omega
  simp [this, h0]
  omega
theorem cl3 (d : Nat) : (T d).P.clss[3]? = some (clss.getD 3 { fields := [], init := none, meths := [] }) := by rw [TP]; rfl
theorem mk_rat (k : Nat) {a b : Int} {μ : Mem} (hb : b ≠ 0) (h1 : a.natAbs < 2 ^ 8000) (h2 : b.natAbs < 2 ^ 8000) : (T (k + 2)).make 3 [.int a, .int b] μ = .ok (oR (Rat.divInt a b)) μ := by
  obtain ⟨r1, r2⟩ := rat_is (a := a) hb
  unfold oR
  rw [← r1, ← r2]
  have hg : 0 < Int.gcd a b := Int.gcd_pos_of_ne_zero_right _ hb
  have hgl : Int.gcd a b ≤ b.natAbs := Int.gcd_le_natAbs_right (b := b) a hb
  have hd : divOk (Int.gcd a b : Nat) = true := divOk_b (by omega) (by rw [Int.natAbs_natCast]; omega)
  rw [make3]
  have e1 := is_integer k (v := .int a) (μ := μ) trivial
  have e2 := is_integer k (v := .int b) (μ := μ) trivial
  have hp8 : (2 : Nat) ^ 8000 ≤ 2 ^ 20000 := Nat.pow_le_pow_right (by decide) (by decide)
  have e3 := common k (a := a) (b := b) (μ := μ) (Nat.lt_of_lt_of_le h1 hp8) (Nat.lt_of_lt_of_le h2 hp8)
  have b1 : evB (T (k + 1)) d6.body [some (.obj 3 []), some (.int a), some (.int b), none] μ = .ok (.next [some (ob (rN a b) (rD a b)), some (.int a), some (.int b), some (.int (Int.gcd a b : Nat))]) μ := by
    have f1 : evS (T (k + 1)) (.setf "n" (.ite (.ocmp .Gt (.var 2) (.int 0)) (.obin .FloorDiv (.var 1) (.var 3)) (.obin .FloorDiv (.oneg (.var 1)) (.var 3)))) [some (.obj 3 []), some (.int a), some (.int b), some (.int (Int.gcd a b : Nat))] μ = .ok (.next [some (.obj 3 [.int (rN a b)]), some (.int a), some (.int b), some (.int (Int.gcd a b : Nat))]) μ := by
      refine S_setf (v := .int (rN a b)) (vs := []) ?_ rfl (cl3 _) rfl
      unfold rN
      by_cases hp : 0 < b <;> simp [hp, bin_div hd]
    have f2 : evS (T (k + 1)) (.setf "d" (.obin .FloorDiv (.bi .abs [(.var 2)]) (.var 3))) [some (.obj 3 [.int (rN a b)]), some (.int a), some (.int b), some (.int (Int.gcd a b : Nat))] μ = .ok (.next [some (ob (rN a b) (rD a b)), some (.int a), some (.int b), some (.int (Int.gcd a b : Nat))]) μ := by
      refine S_setf (v := .int (rD a b)) (vs := [.int (rN a b)]) ?_ rfl (cl3 _) rfl
      unfold rD
      simp [bin_div hd]
    simp only [d6, B_cons, S_ite, E_or, E_not, E_call, Es_cons, Es_nil, E_var0, E_varS, bind_ok', e1, e2, isIntM, tru_bl, Bool.not_true, Bool.false_eq_true, if_false, stm_ok', B_nil, go_next, E_ocmp, E_int, cmpT_int, cmp_eqi, hb, decide_false, opt_some, S_asg, e3, A_var, calm_ok', List.set_cons_zero, List.set_cons_succ, f1, f2]
  simp only [runI, fullArgs]
  have e4 : slots d6 ([MV.obj 3 [], .int a, .int b] ++ List.drop (d6.dfl.length - (d6.np - [MV.obj 3 [], .int a, .int b].length)) d6.dfl) = [some (.obj 3 []), some (.int a), some (.int b), none] := rfl
  rw [e4, b1]
  rfl
theorem mk_int (k : Nat) {a : Int} {μ : Mem} (h1 : a.natAbs < 2 ^ 8000) : (T (k + 2)).make 3 [.int a] μ = .ok (oR (a : Rat)) μ := by
  rw [int_is]
  have : (1 : Int).natAbs < 2 ^ 8000 := Nat.one_lt_two_pow (by decide)
  exact mk_rat k (b := 1) (by decide) h1 this
section
variable {μ : Mem} {p q : Rat} {v : MV} {k l j : Nat}
@[simp] theorem fld_n {n d : Int} : fldM prog "n" (ob n d) μ = .ok (.int n) μ := Eq.trans rfl rfl
@[simp] theorem fld_d {n d : Int} : fldM prog "d" (ob n d) μ = .ok (.int d) μ := Eq.trans rfl rfl
theorem ty_rat {n d : Int} : tysM prog μ (ob n d) [.cls 3] = some true := Eq.trans rfl rfl
theorem ty_nrat (h : DatM μ v) : tysM prog μ v [.cls 3] = some false := by
  cases v <;> simp only [DatM] at h <;> simp [tysM, tyM]
  obtain ⟨xs, h⟩ := h
  rw [h]
  rfl
theorem check_ok (k : Nat) {n d : Int} : (T (k + 1)).call 21 [ob n d] μ = .ok .non μ := by
  rw [run21]
  refine R.To.is (runD_to rfl rfl ?_)
  simp only [d21, slots]
  simp [ty_rat]
  exact ⟨rfl, rfl⟩
theorem check_bad (k : Nat) (h : DatM μ v) : (T (k + 1)).call 21 [v] μ = .exc ⟨1, []⟩ μ := by
  rw [run21]
  have f1 : evS (T k) (.raise 1 [(.str "a Ratio")]) [some v] μ = .exc ⟨1, []⟩ [some v] μ := S_raise (xs := [.str "a Ratio"]) (by simp) (by rw [TP]; rfl)
  simp only [runD, d21, fullArgs, slots]
  simp [ty_nrat h, f1]
theorem p8 {k : Nat} {n : Nat} (h : n < 2 ^ k) (hk : k ≤ 8000) : n < 2 ^ 8000 := Nat.lt_of_lt_of_le h (Nat.pow_le_pow_right (by decide) hk)
theorem add_ok (j : Nat) (hp : Bd k p) (hq : Bd l q) (h : k + l + 1 ≤ 8000) : (T (j + 3)).call 7 [oR p, oR q] μ = .ok (oR (p + q)) μ := by
  rw [run7]
  refine R.To.is (runD_to rfl rfl ?_)
  simp only [d7, slots]
  have m1 : mulOk p.num (q.den : Int) = true := mulOk_b (p8 hp.1 (by omega)) (p8 hq.2 (by omega))
  have m2 : mulOk q.num (p.den : Int) = true := mulOk_b (p8 hq.1 (by omega)) (p8 hp.2 (by omega))
  have m3 : mulOk (p.den : Int) (q.den : Int) = true := mulOk_b (p8 hp.2 (by omega)) (p8 hq.2 (by omega))
  have hm := mk_rat j (μ := μ) (dz p q) (p8 (hp.cross hq).1 (by omega)) (p8 (hp.dd hq) (by omega))
  simp [check_ok, bin_mul m1, bin_mul m2, bin_mul m3, hm, add_is]
theorem sub_ok (j : Nat) (hp : Bd k p) (hq : Bd l q) (h : k + l + 1 ≤ 8000) : (T (j + 3)).call 8 [oR p, oR q] μ = .ok (oR (p - q)) μ := by
  rw [run8]
  refine R.To.is (runD_to rfl rfl ?_)
  simp only [d8, slots]
  have m1 : mulOk p.num (q.den : Int) = true := mulOk_b (p8 hp.1 (by omega)) (p8 hq.2 (by omega))
  have m2 : mulOk q.num (p.den : Int) = true := mulOk_b (p8 hq.1 (by omega)) (p8 hp.2 (by omega))
  have m3 : mulOk (p.den : Int) (q.den : Int) = true := mulOk_b (p8 hp.2 (by omega)) (p8 hq.2 (by omega))
  have hm := mk_rat j (μ := μ) (dz p q) (p8 (hp.cross hq).2 (by omega)) (p8 (hp.dd hq) (by omega))
  simp [check_ok, bin_mul m1, bin_mul m2, bin_mul m3, hm, sub_is]
theorem mul_ok (j : Nat) (hp : Bd k p) (hq : Bd l q) (h : k + l ≤ 8000) : (T (j + 3)).call 9 [oR p, oR q] μ = .ok (oR (p * q)) μ := by
  rw [run9]
  refine R.To.is (runD_to rfl rfl ?_)
  simp only [d9, slots]
  have m1 : mulOk p.num q.num = true := mulOk_b (p8 hp.1 (by omega)) (p8 hq.1 (by omega))
  have m3 : mulOk (p.den : Int) (q.den : Int) = true := mulOk_b (p8 hp.2 (by omega)) (p8 hq.2 (by omega))
  have hm := mk_rat j (μ := μ) (dz p q) (p8 (hp.nn hq) (by omega)) (p8 (hp.dd hq) (by omega))
  simp [check_ok, bin_mul m1, bin_mul m3, hm, mul_is]
theorem neg_ok (j : Nat) (hp : Bd k p) (h : k ≤ 8000) : (T (j + 3)).call 10 [oR p] μ = .ok (oR (-p)) μ := by
  rw [run10]
  refine R.To.is (runD_to rfl rfl ?_)
  simp only [d10, slots]
  have hm := mk_rat j (a := -p.num) (b := p.den) (μ := μ) (by have := p.den_pos; omega) (by rw [Int.natAbs_neg]; exact p8 hp.1 h) (p8 hp.2 h)
  simp [hm, neg_is]
theorem eqR_iff : (decide (p.num = q.num) && decide ((p.den : Int) = q.den)) = decide (p = q) := by
  rw [← Bool.decide_and]
  refine decide_eq_decide.mpr ⟨fun h => Rat.ext h.1 (by have := h.2; omega), ?_⟩
  rintro rfl
  exact ⟨rfl, rfl⟩
theorem eq_ok (j : Nat) : (T (j + 1)).call 11 [oR p, oR q] μ = .ok (.bl (decide (p = q))) μ := by
  rw [run11, ← eqR_iff]
  refine R.To.is (runD_to rfl rfl ?_)
  simp only [d11, slots]
  simp [ty_rat]
  by_cases h : p.num = q.num <;> simp [h]
theorem over_ok (j : Nat) (hp : Bd k p) (hq : Bd l q) (h : k + l ≤ 8000) (h0 : q ≠ 0) : (T (j + 3)).call 14 [oR p, oR q] μ = .ok (oR (p / q)) μ := by
  rw [run14]
  refine R.To.is (runD_to rfl rfl ?_)
  simp only [d14, slots]
  have m1 : mulOk p.num (q.den : Int) = true := mulOk_b (p8 hp.1 (by omega)) (p8 hq.2 (by omega))
  have m3 : mulOk (p.den : Int) q.num = true := mulOk_b (p8 hp.2 (by omega)) (p8 hq.1 (by omega))
  have h1 : q.num ≠ 0 := fun z => h0 (Rat.num_eq_zero.mp z)
  have hm := mk_rat j (μ := μ) (Int.mul_ne_zero (show (p.den : Int) ≠ 0 by have := p.den_pos; omega) h1) (p8 (hp.nd hq) (by omega)) (p8 (hp.dn hq) (by omega))
  simp [check_ok, bin_mul m1, bin_mul m3, hm, over_is]
theorem times_ok (j : Nat) {t : Int} (hp : Bd k p) (ht : t.natAbs < 2 ^ l) (h : k + l ≤ 8000) : (T (j + 3)).call 15 [oR p, .int t] μ = .ok (oR (p * (t : Rat))) μ := by
  rw [run15]
  refine R.To.is (runD_to rfl rfl ?_)
  simp only [d15, slots]
  have m1 : mulOk p.num t = true := mulOk_b (p8 hp.1 (by omega)) (p8 ht (by omega))
  have hm := mk_rat j (a := p.num * t) (b := p.den) (μ := μ) (by have := p.den_pos; omega) (by rw [Int.natAbs_mul]; exact p8 (nlt hp.1 ht) h) (p8 hp.2 (by omega))
  simp [bin_mul m1, hm, times_is]
def sgn (x : Int) : Int := if 0 < x then 1 else if x < 0 then -1 else 0
def sg (q : Rat) : Int := sgn q.num
theorem sign_ok (j : Nat) : (T (j + 1)).call 16 [oR p] μ = .ok (.int (sg p)) μ := by
  rw [run16]
  refine R.To.is (runD_to rfl rfl ?_)
  simp only [d16, slots]
  simp [sg, sgn]
  by_cases h1 : 0 < p.num
  · simp [h1]
  · by_cases h2 : p.num < 0 <;> simp [h1, h2]
theorem sg_zero : sg p = 0 ↔ p = 0 := by
  unfold sg sgn
  rw [← Rat.num_eq_zero]
  constructor
  · intro h
    split at h
    · cases h
    · split at h
      · cases h
      · omega
  · intro h
    rw [h]
    rfl
theorem sg_neg : sg (-p) = -sg p := by
  unfold sg sgn
  rw [Rat.neg_num]
  split <;> split <;> (try split) <;> (try split) <;> omega
theorem sg_pos : 0 < sg p ↔ 0 < p := by
  unfold sg sgn
  have h1 := Rat.num_nonneg (q := p)
  have h2 := Rat.num_eq_zero (q := p)
  constructor
  · intro h
    split at h
    · rename_i hp
      have : 0 ≤ p := h1.mp (by omega)
      have : p ≠ 0 := fun z => by have := h2.mpr z; omega
      grind
    · split at h <;> cases h
  · intro h
    have a1 : 0 ≤ p.num := h1.mpr (by grind)
    have a2 : p.num ≠ 0 := fun z => by
      have := h2.mp z
      grind
    rw [if_pos (by omega)]
    decide
end
end Mch.k03

/-! ## k03: expressions of Ratios; Surds -/
namespace Mch.k03
open PySem Mch
theorem me3_add : methOf prog 3 (opName .Add) = some 7 := by decide +kernel
theorem me3_sub : methOf prog 3 (opName .Sub) = some 8 := by decide +kernel
theorem me3_mul : methOf prog 3 (opName .Mult) = some 9 := by decide +kernel
theorem me3_neg : methOf prog 3 "__neg__" = some 10 := by decide +kernel
theorem me3_eq : methOf prog 3 "__eq__" = some 11 := by decide +kernel
theorem me3_eq' : (cmName .Eq).bind (methOf prog 3) = some 11 := by decide +kernel
theorem me3_ne : methOf prog 3 "__ne__" = none := by decide +kernel
theorem me3_str : methOf prog 3 "__str__" = some 13 := by decide +kernel
theorem me3_over : methOf prog 3 "over" = some 14 := by decide +kernel
theorem me3_times : methOf prog 3 "times" = some 15 := by decide +kernel
theorem me3_sign : methOf prog 3 "sign" = some 16 := by decide +kernel
theorem me4_add : methOf prog 4 (opName .Add) = some 25 := by decide +kernel
theorem me4_sub : methOf prog 4 (opName .Sub) = some 26 := by decide +kernel
theorem me4_mul : methOf prog 4 (opName .Mult) = some 27 := by decide +kernel
theorem me4_neg : methOf prog 4 "__neg__" = some 28 := by decide +kernel
theorem me4_eq : methOf prog 4 "__eq__" = some 23 := by decide +kernel
theorem me4_eq' : (cmName .Eq).bind (methOf prog 4) = some 23 := by decide +kernel
theorem me4_ne : methOf prog 4 "__ne__" = none := by decide +kernel
theorem me4_str : methOf prog 4 "__str__" = some 24 := by decide +kernel
theorem me4_over : methOf prog 4 "over" = some 29 := by decide +kernel
theorem me4_sign : methOf prog 4 "sign" = some 30 := by decide +kernel
theorem meT {k : Nat} {c : Nat} {s : Str} {o : Option Nat} (h : methOf prog c s = o) : methOf (T k).P c s = o := by rw [TP]; exact h
section
variable {σ : Env} {μ : Mem} {p q : Rat} {A B : E} {k l j : Nat} {t : Int}
theorem e_add (hA : evE (T (j + 3)) A σ μ = .ok (oR p) μ) (hB : evE (T (j + 3)) B σ μ = .ok (oR q) μ) (hp : Bd k p) (hq : Bd l q) (h : k + l + 1 ≤ 8000) : evE (T (j + 3)) (.obin .Add A B) σ μ = .ok (oR (p + q)) μ := by
  simp only [E_obin, hA, hB, bind_ok']
  rw [binT_obj (meT me3_add) rfl]
  exact add_ok j hp hq h
theorem e_sub (hA : evE (T (j + 3)) A σ μ = .ok (oR p) μ) (hB : evE (T (j + 3)) B σ μ = .ok (oR q) μ) (hp : Bd k p) (hq : Bd l q) (h : k + l + 1 ≤ 8000) : evE (T (j + 3)) (.obin .Sub A B) σ μ = .ok (oR (p - q)) μ := by
  simp only [E_obin, hA, hB, bind_ok']
  rw [binT_obj (meT me3_sub) rfl]
  exact sub_ok j hp hq h
theorem e_mul (hA : evE (T (j + 3)) A σ μ = .ok (oR p) μ) (hB : evE (T (j + 3)) B σ μ = .ok (oR q) μ) (hp : Bd k p) (hq : Bd l q) (h : k + l ≤ 8000) : evE (T (j + 3)) (.obin .Mult A B) σ μ = .ok (oR (p * q)) μ := by
  simp only [E_obin, hA, hB, bind_ok']
  rw [binT_obj (meT me3_mul) rfl]
  exact mul_ok j hp hq h
theorem e_neg (hA : evE (T (j + 3)) A σ μ = .ok (oR p) μ) (hp : Bd k p) (h : k ≤ 8000) : evE (T (j + 3)) (.oneg A) σ μ = .ok (oR (-p)) μ := by
  simp only [E_oneg, hA, bind_ok']
  rw [negT_obj (meT me3_neg)]
  exact neg_ok j hp h
theorem e_times (hA : evE (T (j + 3)) A σ μ = .ok (oR p) μ) (hB : evE (T (j + 3)) B σ μ = .ok (.int t) μ) (hp : Bd k p) (ht : t.natAbs < 2 ^ l) (h : k + l ≤ 8000) : evE (T (j + 3)) (.omth "times" A [B]) σ μ = .ok (oR (p * (t : Rat))) μ := by
  rw [E_omth hA (meT me3_times)]
  simp only [Es_cons, Es_nil, hB, bind_ok']
  exact times_ok j hp ht h
theorem e_over (hA : evE (T (j + 3)) A σ μ = .ok (oR p) μ) (hB : evE (T (j + 3)) B σ μ = .ok (oR q) μ) (hp : Bd k p) (hq : Bd l q) (h : k + l ≤ 8000) (h0 : q ≠ 0) : evE (T (j + 3)) (.omth "over" A [B]) σ μ = .ok (oR (p / q)) μ := by
  rw [E_omth hA (meT me3_over)]
  simp only [Es_cons, Es_nil, hB, bind_ok']
  exact over_ok j hp hq h h0
theorem e_sign (hA : evE (T (j + 1)) A σ μ = .ok (oR p) μ) : evE (T (j + 1)) (.omth "sign" A []) σ μ = .ok (.int (sg p)) μ := by
  rw [E_omth hA (meT me3_sign)]
  simp only [Es_nil, bind_ok']
  exact sign_ok j
theorem e_eq (hA : evE (T (j + 1)) A σ μ = .ok (oR p) μ) (hB : evE (T (j + 1)) B σ μ = .ok (oR q) μ) : evE (T (j + 1)) (.ocmp .Eq A B) σ μ = .ok (.bl (decide (p = q))) μ := by
  simp only [E_ocmp, hA, hB, bind_ok']
  rw [cmpT_obj rfl (by rw [TP]; exact me3_eq') othC_self (eq_ok j)]
  rfl
end
/-! ### Surds -/
abbrev S' (a b : Rat) (d : Int) : MV := .obj 4 [oR a, oR b, .int d]
def Vd (d : Int) (b : Rat) : Prop := (d = 1 ∨ d = 2 ∨ d = 3 ∨ d = 5) ∧ (d = 1 → b = 0)
theorem Vd.lt {d : Int} {b : Rat} (h : Vd d b) : d.natAbs < 2 ^ 3 := by
  rcases h.1 with rfl | rfl | rfl | rfl <;> decide
theorem cl4 (d : Nat) : (T d).P.clss[4]? = some (clss.getD 4 { fields := [], init := none, meths := [] }) := by rw [TP]; rfl
section
variable {μ : Mem} {a b c e : Rat} {d f : Int} {v : MV} {k l j : Nat}
@[simp] theorem fld_sa : fldM prog "a" (S' a b d) μ = .ok (oR a) μ := Eq.trans rfl rfl
@[simp] theorem fld_sb : fldM prog "b" (S' a b d) μ = .ok (oR b) μ := Eq.trans rfl rfl
@[simp] theorem fld_sd : fldM prog "d" (S' a b d) μ = .ok (.int d) μ := Eq.trans rfl rfl
theorem ty_surd : tysM prog μ (S' a b d) [.cls 4] = some true := Eq.trans rfl rfl
theorem ty_surdR {p : Rat} : tysM prog μ (oR p) [.cls 4] = some false := Eq.trans rfl rfl
theorem ty_nsurd (h : DatM μ v) : tysM prog μ v [.cls 4] = some false := by
  cases v <;> simp only [DatM] at h <;> simp [tysM, tyM]
  obtain ⟨xs, h⟩ := h
  rw [h]
  rfl
abbrev tst22 : E := .or (.cmp .NotIn (.var 3) (.tup [(.int 1), (.int 2), (.int 3), (.int 5)])) (.or (.isin (.var 3) [.bool]) (.and (.ocmp .Eq (.var 3) (.int 1)) (.ocmp .NotEq (.omth "sign" (.var 2) []) (.int 0))))
theorem d22_is : d22.body = [.expr (.call 21 [(.var 1)]), .expr (.call 21 [(.var 2)]), .ite tst22 [.raise 1 [(.str "a number with a root")]] [], .setf "a" (.var 1), .setf "b" (.var 2), .setf "d" (.var 3)] := rfl
theorem slots22 {x y z : MV} : slots d22 ([MV.obj 4 [], x, y, z] ++ List.drop (d22.dfl.length - (d22.np - [MV.obj 4 [], x, y, z].length)) d22.dfl) = [some (.obj 4 []), some x, some y, some z] := rfl
theorem mk_surd (j : Nat) (h : Vd d b) : (T (j + 3)).make 4 [oR a, oR b, .int d] μ = .ok (S' a b d) μ := by
  rw [make4]
  have ht : evE (T (j + 2)) tst22 [some (.obj 4 []), some (oR a), some (oR b), some (.int d)] μ = .ok (.bl false) μ := by
    have hs : evE (T (j + 2)) (.omth "sign" (.var 2) []) [some (.obj 4 []), some (oR a), some (oR b), some (.int d)] μ = .ok (.int (sg b)) μ := e_sign (j := j + 1) (E_var rfl)
    have hin : cmpM μ .NotIn (.int d) (.tup [.int 1, .int 2, .int 3, .int 5]) = some false := by
      rcases h.1 with rfl | rfl | rfl | rfl <;> rfl
    have hty : tysM prog μ (.int d) [.bool] = some false := rfl
    simp only [tst22, E_or, E_cmp, E_var0, E_varS, E_tup, Es_cons, Es_nil, E_int, bind_ok', newT4, hin, opt_some, tru_bl, Bool.false_eq_true, if_false, E_isin, TP, hty, E_and, E_ocmp, cmpT_int, cmp_eqi, hs, cmp_nei]
    by_cases h1 : d = 1
    · have hb0 := sg_zero.mpr (h.2 h1)
      simp only [h1, decide_true, if_true, hb0, Bool.not_true]
    · simp only [h1, decide_false, Bool.false_eq_true, if_false]
  have f1 : evS (T (j + 2)) (.setf "a" (.var 1)) [some (.obj 4 []), some (oR a), some (oR b), some (.int d)] μ = .ok (.next [some (.obj 4 [oR a]), some (oR a), some (oR b), some (.int d)]) μ := S_setf (v := oR a) (vs := []) (E_var rfl) rfl (cl4 _) rfl
  have f2 : evS (T (j + 2)) (.setf "b" (.var 2)) [some (.obj 4 [oR a]), some (oR a), some (oR b), some (.int d)] μ = .ok (.next [some (.obj 4 [oR a, oR b]), some (oR a), some (oR b), some (.int d)]) μ := S_setf (v := oR b) (vs := [oR a]) (E_var rfl) rfl (cl4 _) rfl
  have f3 : evS (T (j + 2)) (.setf "d" (.var 3)) [some (.obj 4 [oR a, oR b]), some (oR a), some (oR b), some (.int d)] μ = .ok (.next [some (S' a b d), some (oR a), some (oR b), some (.int d)]) μ := S_setf (v := .int d) (vs := [oR a, oR b]) (E_var rfl) rfl (cl4 _) rfl
  have b1 : evB (T (j + 2)) d22.body [some (.obj 4 []), some (oR a), some (oR b), some (.int d)] μ = .ok (.next [some (S' a b d), some (oR a), some (oR b), some (.int d)]) μ := by
    rw [d22_is]
    simp only [B_cons, B_nil, S_expr, E_call, Es_cons, Es_nil, E_var0, E_varS, bind_ok', check_ok (j + 1), stm_ok', go_next, S_ite, ht, tru_bl, Bool.false_eq_true, if_false, f1, f2, f3]
  simp only [runI, fullArgs]
  rw [slots22, b1]
  rfl
theorem mk_surd_x (j : Nat) {x y z : MV} (hb : evB (T (j + 2)) d22.body [some (.obj 4 []), some x, some y, some z] μ = .exc ⟨1, []⟩ [some (.obj 4 []), some x, some y, some z] μ) : (T (j + 3)).make 4 [x, y, z] μ = .exc ⟨1, []⟩ μ := by
  rw [make4]
  simp only [runI, fullArgs]
  rw [slots22, hb]
  rfl
theorem mk_surd_bad1 (j : Nat) {y z : MV} (h : DatM μ v) : (T (j + 3)).make 4 [v, y, z] μ = .exc ⟨1, []⟩ μ := by
  refine mk_surd_x j ?_
  rw [d22_is]
  simp only [B_cons, S_expr, E_call, Es_cons, Es_nil, E_var0, E_varS, bind_ok', check_bad (j + 1) h, stm_exc, go_exc]
theorem mk_surd_bad2 (j : Nat) {z : MV} (ht : evE (T (j + 2)) tst22 [some (.obj 4 []), some (oR a), some (oR b), some z] μ = .ok (.bl true) μ) : (T (j + 3)).make 4 [oR a, oR b, z] μ = .exc ⟨1, []⟩ μ := by
  refine mk_surd_x j ?_
  have f1 : evS (T (j + 2)) (.raise 1 [(.str "a number with a root")]) [some (.obj 4 []), some (oR a), some (oR b), some z] μ = .exc ⟨1, []⟩ [some (.obj 4 []), some (oR a), some (oR b), some z] μ := S_raise (xs := [.str "a number with a root"]) (by simp) (by rw [TP]; rfl)
  rw [d22_is]
  simp only [B_cons, B_nil, S_expr, E_call, Es_cons, Es_nil, E_var0, E_varS, bind_ok', check_ok (j + 1), stm_ok', go_next, S_ite, ht, tru_bl, if_true, f1, go_exc]
/-- check_pair -/
theorem pair_ok (j : Nat) : (T (j + 1)).call 31 [S' a b d, S' c e d] μ = .ok .non μ := by
  rw [run31]
  refine R.To.is (runD_to rfl rfl ?_)
  simp only [d31, slots]
  simp [ty_surd]
  exact ⟨rfl, rfl⟩
theorem pair_bad (j : Nat) (h : tysM prog μ v [.cls 4] = some false) : (T (j + 1)).call 31 [S' a b d, v] μ = .exc ⟨1, []⟩ μ := by
  rw [run31]
  have f1 : evS (T j) (.raise 1 [(.str "numbers with a root")]) [some (S' a b d), some v] μ = .exc ⟨1, []⟩ [some (S' a b d), some v] μ := S_raise (xs := [.str "numbers with a root"]) (by simp) (by rw [TP]; rfl)
  simp only [runD, d31, fullArgs, slots]
  simp [ty_surd, h, f1]
theorem pair_bad2 (j : Nat) (h : d ≠ f) : (T (j + 1)).call 31 [S' a b d, S' c e f] μ = .exc ⟨1, []⟩ μ := by
  rw [run31]
  have f1 : evS (T j) (.raise 1 [(.str "numbers with a root")]) [some (S' a b d), some (S' c e f)] μ = .exc ⟨1, []⟩ [some (S' a b d), some (S' c e f)] μ := S_raise (xs := [.str "numbers with a root"]) (by simp) (by rw [TP]; rfl)
  simp only [runD, d31, fullArgs, slots]
  simp [ty_surd, f1, h]
end
end Mch.k03

/-! ## k03: what Surds' methods do -/
namespace Mch.k03
open PySem Mch
section
variable {μ : Mem} {a b c e : Rat} {d f : Int} {v : MV} {k l j : Nat}
/-- fields, as expressions -/
theorem g_a {J : Nat} {σ : Env} {i : Nat} (h : σ[i]? = some (some (S' a b d))) : evE (T J) (.fld (.var i) "a") σ μ = .ok (oR a) μ := by
  simp only [E_fld, E_var h, bind_ok', TP, fld_sa]
theorem g_b {J : Nat} {σ : Env} {i : Nat} (h : σ[i]? = some (some (S' a b d))) : evE (T J) (.fld (.var i) "b") σ μ = .ok (oR b) μ := by
  simp only [E_fld, E_var h, bind_ok', TP, fld_sb]
theorem g_d {J : Nat} {σ : Env} {i : Nat} (h : σ[i]? = some (some (S' a b d))) : evE (T J) (.fld (.var i) "d") σ μ = .ok (.int d) μ := by
  simp only [E_fld, E_var h, bind_ok', TP, fld_sd]
theorem m_surd {J : Nat} {σ : Env} {A B C : E} (hA : evE (T (J + 3)) A σ μ = .ok (oR a) μ) (hB : evE (T (J + 3)) B σ μ = .ok (oR b) μ) (hC : evE (T (J + 3)) C σ μ = .ok (.int d) μ) (h : Vd d b) : evE (T (J + 3)) (.mk 4 [A, B, C]) σ μ = .ok (S' a b d) μ := by
  simp only [E_mk, Es_cons, Es_nil, hA, hB, hC, bind_ok']
  exact mk_surd J h
theorem Vd.add (h : Vd d b) (h' : Vd d e) : Vd d (b + e) := ⟨h.1, fun z => by rw [h.2 z, h'.2 z]; grind⟩
theorem Vd.sub (h : Vd d b) (h' : Vd d e) : Vd d (b - e) := ⟨h.1, fun z => by rw [h.2 z, h'.2 z]; grind⟩
theorem Vd.neg (h : Vd d b) : Vd d (-b) := ⟨h.1, fun z => by rw [h.2 z]; grind⟩
theorem Vd.mul (h : Vd d b) (h' : Vd d e) (x y : Rat) : Vd d (x * e + b * y) := ⟨h.1, fun z => by rw [h.2 z, h'.2 z]; grind⟩
theorem Vd.div (h : Vd d b) (x : Rat) : Vd d (b / x) := ⟨h.1, fun z => by rw [h.2 z]; grind⟩
theorem sadd (j : Nat) (ha : Bd k a) (hb : Bd k b) (hc : Bd l c) (he : Bd l e) (h : k + l + 1 ≤ 8000) (v1 : Vd d b) (v2 : Vd d e) : (T (j + 4)).call 25 [S' a b d, S' c e d] μ = .ok (S' (a + c) (b + e) d) μ := by
  rw [run25]
  refine R.To.is (runD_to rfl rfl ?_)
  have hs : slots d25 [S' a b d, S' c e d] = [some (S' a b d), some (S' c e d)] := rfl
  rw [hs]
  have hm : evE (T (j + 3)) (.mk 4 [(.obin .Add (.fld (.var 0) "a") (.fld (.var 1) "a")), (.obin .Add (.fld (.var 0) "b") (.fld (.var 1) "b")), (.fld (.var 0) "d")]) [some (S' a b d), some (S' c e d)] μ = .ok (S' (a + c) (b + e) d) μ :=
    m_surd (e_add (g_a rfl) (g_a rfl) ha hc h) (e_add (g_b rfl) (g_b rfl) hb he h) (g_d rfl) (v1.add v2)
  simp only [d25, B_cons, B_nil, S_expr, S_ret, hm, E_call, Es_cons, Es_nil, E_var0, E_varS, bind_ok', pair_ok (j + 2), stm_ok', go_next, go_ret, STo_ok, retT_ret]
  exact ⟨by trivial, by trivial⟩
theorem ssub (j : Nat) (ha : Bd k a) (hb : Bd k b) (hc : Bd l c) (he : Bd l e) (h : k + l + 1 ≤ 8000) (v1 : Vd d b) (v2 : Vd d e) : (T (j + 4)).call 26 [S' a b d, S' c e d] μ = .ok (S' (a - c) (b - e) d) μ := by
  rw [run26]
  refine R.To.is (runD_to rfl rfl ?_)
  have hs : slots d26 [S' a b d, S' c e d] = [some (S' a b d), some (S' c e d)] := rfl
  rw [hs]
  have hm : evE (T (j + 3)) (.mk 4 [(.obin .Sub (.fld (.var 0) "a") (.fld (.var 1) "a")), (.obin .Sub (.fld (.var 0) "b") (.fld (.var 1) "b")), (.fld (.var 0) "d")]) [some (S' a b d), some (S' c e d)] μ = .ok (S' (a - c) (b - e) d) μ :=
    m_surd (e_sub (g_a rfl) (g_a rfl) ha hc h) (e_sub (g_b rfl) (g_b rfl) hb he h) (g_d rfl) (v1.sub v2)
  simp only [d26, B_cons, B_nil, S_expr, S_ret, hm, E_call, Es_cons, Es_nil, E_var0, E_varS, bind_ok', pair_ok (j + 2), stm_ok', go_next, go_ret, STo_ok, retT_ret]
  exact ⟨by trivial, by trivial⟩
theorem smul (j : Nat) (ha : Bd k a) (hb : Bd k b) (hc : Bd l c) (he : Bd l e) (h : 2 * (k + l) + 4 ≤ 8000) (v1 : Vd d b) (v2 : Vd d e) : (T (j + 4)).call 27 [S' a b d, S' c e d] μ = .ok (S' (a * c + b * e * (d : Rat)) (a * e + b * c) d) μ := by
  rw [run27]
  refine R.To.is (runD_to rfl rfl ?_)
  have hs : slots d27 [S' a b d, S' c e d] = [some (S' a b d), some (S' c e d), none] := rfl
  rw [hs]
  have h1 : evE (T (j + 3)) (.obin .Add (.obin .Mult (.fld (.var 0) "a") (.fld (.var 1) "a")) (.omth "times" (.obin .Mult (.fld (.var 0) "b") (.fld (.var 1) "b")) [(.fld (.var 0) "d")])) [some (S' a b d), some (S' c e d), none] μ = .ok (oR (a * c + b * e * (d : Rat))) μ :=
    e_add (e_mul (g_a rfl) (g_a rfl) ha hc (by omega)) (e_times (e_mul (g_b rfl) (g_b rfl) hb he (by omega)) (g_d rfl) (hb.mul he) v1.lt (by omega)) (ha.mul hc) ((hb.mul he).times v1.lt) (by omega)
  have hm : evE (T (j + 3)) (.mk 4 [(.var 2), (.obin .Add (.obin .Mult (.fld (.var 0) "a") (.fld (.var 1) "b")) (.obin .Mult (.fld (.var 0) "b") (.fld (.var 1) "a"))), (.fld (.var 0) "d")]) [some (S' a b d), some (S' c e d), some (oR (a * c + b * e * (d : Rat)))] μ = .ok (S' (a * c + b * e * (d : Rat)) (a * e + b * c) d) μ :=
    m_surd (E_var rfl) (e_add (e_mul (g_a rfl) (g_b rfl) ha he (by omega)) (e_mul (g_b rfl) (g_a rfl) hb hc (by omega)) (ha.mul he) (hb.mul hc) (by omega)) (g_d rfl) (v1.mul v2 a c)
  simp only [d27, B_cons, B_nil, S_expr, S_asg, S_ret, E_call, Es_cons, Es_nil, E_var0, E_varS, bind_ok', pair_ok (j + 2), h1, stm_ok', A_var, calm_ok', List.set_cons_zero, List.set_cons_succ, go_next, hm, go_ret, STo_ok, retT_ret]
  exact ⟨by trivial, by trivial⟩
theorem sneg (j : Nat) (ha : Bd k a) (hb : Bd k b) (h : k ≤ 8000) (v1 : Vd d b) : (T (j + 4)).call 28 [S' a b d] μ = .ok (S' (-a) (-b) d) μ := by
  rw [run28]
  refine R.To.is (runD_to rfl rfl ?_)
  have hs : slots d28 [S' a b d] = [some (S' a b d)] := rfl
  rw [hs]
  have hm : evE (T (j + 3)) (.mk 4 [(.oneg (.fld (.var 0) "a")), (.oneg (.fld (.var 0) "b")), (.fld (.var 0) "d")]) [some (S' a b d)] μ = .ok (S' (-a) (-b) d) μ :=
    m_surd (e_neg (g_a rfl) ha h) (e_neg (g_b rfl) hb h) (g_d rfl) v1.neg
  simp only [d28, B_cons, B_nil, S_ret, hm, stm_ok', go_ret, STo_ok, retT_ret]
  exact ⟨by trivial, by trivial⟩
theorem seq_ok (j : Nat) : (T (j + 2)).call 23 [S' a b d, S' c e f] μ = .ok (.bl (decide (d = f ∧ a = c ∧ b = e))) μ := by
  rw [run23]
  refine R.To.is (runD_to rfl rfl ?_)
  have hs : slots d23 [S' a b d, S' c e f] = [some (S' a b d), some (S' c e f)] := rfl
  rw [hs]
  have h1 : evE (T (j + 1)) (.ocmp .Eq (.fld (.var 0) "a") (.fld (.var 1) "a")) [some (S' a b d), some (S' c e f)] μ = .ok (.bl (decide (a = c))) μ := e_eq (g_a rfl) (g_a rfl)
  have h2 : evE (T (j + 1)) (.ocmp .Eq (.fld (.var 0) "b") (.fld (.var 1) "b")) [some (S' a b d), some (S' c e f)] μ = .ok (.bl (decide (b = e))) μ := e_eq (g_b rfl) (g_b rfl)
  have h3 : evE (T (j + 1)) (.ocmp .Eq (.fld (.var 0) "d") (.fld (.var 1) "d")) [some (S' a b d), some (S' c e f)] μ = .ok (.bl (decide (d = f))) μ := by
    simp only [E_ocmp, g_d (σ := [some (S' a b d), some (S' c e f)]) (i := 0) rfl, g_d (σ := [some (S' a b d), some (S' c e f)]) (i := 1) rfl, bind_ok', cmpT_int, cmp_eqi, opt_some]
  have hb : decide (d = f ∧ a = c ∧ b = e) = (decide (d = f) && (decide (a = c) && decide (b = e))) := by
    rw [Bool.decide_and, Bool.decide_and]
  rw [hb]
  generalize decide (a = c) = x at h1 ⊢
  generalize decide (b = e) = y at h2 ⊢
  generalize decide (d = f) = z at h3 ⊢
  cases x <;> cases y <;> cases z <;> simp only [d23, B_cons, B_nil, S_ret, E_and, E_isin, E_var0, E_varS, bind_ok', TP, ty_surd, opt_some, tru_bl, if_true, h1, h2, h3, Bool.false_eq_true, if_false, stm_ok', go_ret, STo_ok, retT_ret, Bool.and_true, Bool.and_false, Bool.true_and, Bool.false_and] <;> exact ⟨by trivial, by trivial⟩
theorem seq_bad (j : Nat) (h : tysM prog μ v [.cls 4] = some false) : (T (j + 1)).call 23 [S' a b d, v] μ = .ok (.bl false) μ := by
  rw [run23]
  refine R.To.is (runD_to rfl rfl ?_)
  simp only [d23, slots]
  simp [h]
/-- the sign -/
def sgS (a b : Rat) (d : Int) : Int := if sg a = sg b ∨ sg b = 0 then sg a else if sg a = 0 then sg b else if 0 < sg (a * a - b * b * (d : Rat)) then sg a else sg b
theorem ssign (j : Nat) (ha : Bd k a) (hb : Bd k b) (h : 4 * k + 4 ≤ 8000) (v1 : Vd d b) : (T (j + 4)).call 30 [S' a b d] μ = .ok (.int (sgS a b d)) μ := by
  rw [run30]
  refine R.To.is (runD_to rfl rfl ?_)
  have hs : slots d30 [S' a b d] = [some (S' a b d), none, none, none] := rfl
  rw [hs]
  have h1 : evE (T (j + 3)) (.omth "sign" (.fld (.var 0) "a") []) [some (S' a b d), none, none, none] μ = .ok (.int (sg a)) μ := e_sign (j := j + 2) (g_a rfl)
  have h2 : evE (T (j + 3)) (.omth "sign" (.fld (.var 0) "b") []) [some (S' a b d), none, none, none] μ = .ok (.int (sg b)) μ := e_sign (j := j + 2) (g_b rfl)
  have h3 : evE (T (j + 3)) (.obin .Sub (.obin .Mult (.fld (.var 0) "a") (.fld (.var 0) "a")) (.omth "times" (.obin .Mult (.fld (.var 0) "b") (.fld (.var 0) "b")) [(.fld (.var 0) "d")])) [some (S' a b d), none, some (.int (sg a)), some (.int (sg b))] μ = .ok (oR (a * a - b * b * (d : Rat))) μ :=
    e_sub (e_mul (g_a rfl) (g_a rfl) ha ha (by omega)) (e_times (e_mul (g_b rfl) (g_b rfl) hb hb (by omega)) (g_d rfl) (hb.mul hb) v1.lt (by omega)) (ha.mul ha) ((hb.mul hb).times v1.lt) (by omega)
  have h4 : evE (T (j + 3)) (.omth "sign" (.var 1) []) [some (S' a b d), some (oR (a * a - b * b * (d : Rat))), some (.int (sg a)), some (.int (sg b))] μ = .ok (.int (sg (a * a - b * b * (d : Rat)))) μ := e_sign (j := j + 2) (E_var rfl)
  simp only [d30, B_cons, B_nil, S_asg, E_tup, Es_cons, Es_nil, h1, h2, bind_ok', newT2, stm_ok', A_tup, Ag_cons, Ag_nil, A_var, List.length_cons, List.length_nil, if_true, calm_ok', go_next, List.set_cons_zero, List.set_cons_succ, S_ite, E_or, E_ocmp, E_var0, E_varS, E_int, cmpT_int, cmp_eqi, opt_some, tru_bl]
  unfold sgS
  by_cases q1 : sg a = sg b
  · simp only [q1, decide_true, if_true, true_or, tru_bl, bind_ok', stm_ok', S_ret, E_var0, E_varS, go_ret, STo_ok, retT_ret]
    exact ⟨by trivial, by trivial⟩
  · by_cases q2 : sg b = 0
    · simp only [q1, q2, decide_false, decide_true, Bool.false_eq_true, if_false, if_true, or_true, tru_bl, bind_ok', opt_some, stm_ok', S_ret, E_var0, E_varS, go_ret, STo_ok, retT_ret]
      have q3 : ¬ sg a = 0 := fun z => q1 (by rw [z, q2])
      simp only [q3, decide_false, Bool.false_eq_true, if_false, tru_bl, bind_ok', opt_some, stm_ok', S_ret, E_var0, E_varS, go_ret, go_next, STo_ok, retT_ret, decide_true, if_true]
      exact ⟨by trivial, by trivial⟩
    · by_cases q3 : sg a = 0
      · simp only [q1, q2, q3, decide_false, decide_true, Bool.false_eq_true, if_false, if_true, or_self, tru_bl, bind_ok', opt_some, stm_ok', go_next, S_ret, E_var0, E_varS, go_ret, STo_ok, retT_ret]
        have q4 : ¬ (0 : Int) = sg b := fun z => q2 z.symm
        simp only [q4, decide_false, Bool.false_eq_true, if_false, or_self, tru_bl, bind_ok', opt_some, stm_ok', go_next, S_ret, E_var0, E_varS, go_ret, STo_ok, retT_ret]
        exact ⟨by trivial, by trivial⟩
      · simp only [q1, q2, q3, decide_false, Bool.false_eq_true, if_false, or_self, tru_bl, bind_ok', opt_some, stm_ok', go_next, cmp_eqi, E_var0, E_varS, h3, A_var, calm_ok', List.set_cons_zero, List.set_cons_succ, S_ret, E_ite, E_ocmp, h4, E_int, cmpT_int, cmp_gt]
        by_cases q4 : 0 < sg (a * a - b * b * (d : Rat))
        · simp only [q4, decide_true, if_true, E_var0, E_varS, stm_ok', go_ret, STo_ok, retT_ret]
          exact ⟨by trivial, by trivial⟩
        · simp only [q4, decide_false, Bool.false_eq_true, if_false, E_var0, E_varS, stm_ok', go_ret, STo_ok, retT_ret]
          exact ⟨by trivial, by trivial⟩
end
end Mch.k03

/-! ## k03: quotients, texts -/
namespace Mch.k03
open PySem PySem.Builtin PySem.Builtin.Str Mch
section
variable {μ : Mem} {a b c e : Rat} {d f : Int} {v : MV} {k l j : Nat}
def lowR (c e : Rat) (d : Int) : Rat := c * c - e * e * (d : Rat)
theorem low_bd (hc : Bd l c) (he : Bd l e) (hd : d.natAbs < 2 ^ 3) : Bd (4 * l + 4) (lowR c e d) := by
  have := (hc.mul hc).sub ((he.mul he).times hd)
  exact this.mono (by omega)
abbrev d29b : List S := [.ite (.ocmp .Eq (.omth "sign" (.var 2) []) (.int 0)) [.raise 2 [(.str "zero")]] [], .asg (.var 3) (.obin .Mult (.var 0) (.mk 4 [(.fld (.var 1) "a"), (.oneg (.fld (.var 1) "b")), (.fld (.var 1) "d")])), .ret (.mk 4 [(.omth "over" (.fld (.var 3) "a") [(.var 2)]), (.omth "over" (.fld (.var 3) "b") [(.var 2)]), (.fld (.var 0) "d")])]
theorem d29_is : d29.body = .expr (.call 31 [(.var 0), (.var 1)]) :: .asg (.var 2) (.obin .Sub (.obin .Mult (.fld (.var 1) "a") (.fld (.var 1) "a")) (.omth "times" (.obin .Mult (.fld (.var 1) "b") (.fld (.var 1) "b")) [(.fld (.var 1) "d")])) :: d29b := rfl
theorem low_e (j : Nat) (hc : Bd l c) (he : Bd l e) (h : 4 * l + 4 ≤ 8000) (v2 : Vd d e) {o : List (Option MV)} {x : Option MV} : evE (T (j + 3)) (.obin .Sub (.obin .Mult (.fld (.var 1) "a") (.fld (.var 1) "a")) (.omth "times" (.obin .Mult (.fld (.var 1) "b") (.fld (.var 1) "b")) [(.fld (.var 1) "d")])) (x :: some (S' c e d) :: o) μ = .ok (oR (lowR c e d)) μ :=
  e_sub (e_mul (g_a rfl) (g_a rfl) hc hc (by omega)) (e_times (e_mul (g_b rfl) (g_b rfl) he he (by omega)) (g_d rfl) (he.mul he) v2.lt (by omega)) (hc.mul hc) ((he.mul he).times v2.lt) (by omega)
theorem sover (j : Nat) (ha : Bd k a) (hb : Bd k b) (hc : Bd l c) (he : Bd l e) (h : 2 * k + 6 * l + 10 ≤ 8000) (v1 : Vd d b) (v2 : Vd d e) (h0 : lowR c e d ≠ 0) :
    (T (j + 5)).call 29 [S' a b d, S' c e d] μ = .ok (S' ((a * c + b * (-e) * (d : Rat)) / lowR c e d) ((a * (-e) + b * c) / lowR c e d) d) μ := by
  rw [run29]
  refine R.To.is (runD_to rfl rfl ?_)
  have hs : slots d29 [S' a b d, S' c e d] = [some (S' a b d), some (S' c e d), none, none] := rfl
  rw [hs, d29_is]
  have h1 := low_e (μ := μ) (j + 1) hc he (by omega) v2 (x := some (S' a b d)) (o := [none, none])
  have bl := low_bd hc he v2.lt
  have bA : Bd (2 * (k + l) + 4) (a * c + b * (-e) * (d : Rat)) := ((ha.mul hc).add ((hb.mul he.neg).times v1.lt)).mono (by omega)
  have bB : Bd (2 * (k + l) + 4) (a * (-e) + b * c) := ((ha.mul he.neg).add (hb.mul hc)).mono (by omega)
  have h2 : evE (T (j + 4)) (.omth "sign" (.var 2) []) [some (S' a b d), some (S' c e d), some (oR (lowR c e d)), none] μ = .ok (.int (sg (lowR c e d))) μ := e_sign (j := j + 3) (E_var rfl)
  have hz : ¬ sg (lowR c e d) = 0 := fun z => h0 (sg_zero.mp z)
  have h3 : evE (T (j + 4)) (.mk 4 [(.fld (.var 1) "a"), (.oneg (.fld (.var 1) "b")), (.fld (.var 1) "d")]) [some (S' a b d), some (S' c e d), some (oR (lowR c e d)), none] μ = .ok (S' c (-e) d) μ :=
    m_surd (J := j + 1) (g_a rfl) (e_neg (j := j + 1) (g_b rfl) he (by omega)) (g_d rfl) v2.neg
  have h4 : evE (T (j + 4)) (.obin .Mult (.var 0) (.mk 4 [(.fld (.var 1) "a"), (.oneg (.fld (.var 1) "b")), (.fld (.var 1) "d")])) [some (S' a b d), some (S' c e d), some (oR (lowR c e d)), none] μ = .ok (S' (a * c + b * (-e) * (d : Rat)) (a * (-e) + b * c) d) μ := by
    simp only [E_obin, E_var0, h3, bind_ok']
    rw [binT_obj (meT me4_mul) rfl]
    exact smul j ha hb hc he.neg (by omega) v1 v2.neg
  have v3 : Vd d ((a * (-e) + b * c) / lowR c e d) := (v1.mul v2.neg a c).div _
  have h5 : evE (T (j + 4)) (.mk 4 [(.omth "over" (.fld (.var 3) "a") [(.var 2)]), (.omth "over" (.fld (.var 3) "b") [(.var 2)]), (.fld (.var 0) "d")]) [some (S' a b d), some (S' c e d), some (oR (lowR c e d)), some (S' (a * c + b * (-e) * (d : Rat)) (a * (-e) + b * c) d)] μ = .ok (S' ((a * c + b * (-e) * (d : Rat)) / lowR c e d) ((a * (-e) + b * c) / lowR c e d) d) μ :=
    m_surd (J := j + 1) (e_over (j := j + 1) (g_a rfl) (E_var rfl) bA bl (by omega) h0) (e_over (j := j + 1) (g_b rfl) (E_var rfl) bB bl (by omega) h0) (g_d rfl) v3
  simp only [B_cons, B_nil, S_expr, S_asg, E_call, Es_cons, Es_nil, E_var0, E_varS, bind_ok', pair_ok (j + 3), h1, stm_ok', A_var, calm_ok', List.set_cons_zero, List.set_cons_succ, go_next, S_ite, E_ocmp, h2, E_int, cmpT_int, cmp_eqi, hz, decide_false, opt_some, tru_bl, Bool.false_eq_true, if_false, h4, S_ret, h5, go_ret, STo_ok, retT_ret]
  exact ⟨by trivial, by trivial⟩
theorem sover_zero (j : Nat) (hc : Bd l c) (he : Bd l e) (h : 4 * l + 4 ≤ 8000) (v2 : Vd d e) (h0 : lowR c e d = 0) : (T (j + 5)).call 29 [S' a b d, S' c e d] μ = .exc zeroX μ := by
  rw [run29]
  have h1 := low_e (μ := μ) (j + 1) hc he (by omega) v2 (x := some (S' a b d)) (o := [none, none])
  have h2 : evE (T (j + 4)) (.omth "sign" (.var 2) []) [some (S' a b d), some (S' c e d), some (oR (lowR c e d)), none] μ = .ok (.int (sg (lowR c e d))) μ := e_sign (j := j + 3) (E_var rfl)
  have hz : sg (lowR c e d) = 0 := sg_zero.mpr h0
  have f1 : evS (T (j + 4)) (.raise 2 [(.str "zero")]) [some (S' a b d), some (S' c e d), some (oR (lowR c e d)), none] μ = .exc zeroX [some (S' a b d), some (S' c e d), some (oR (lowR c e d)), none] μ := S_raise (xs := [.str "zero"]) (by simp) (by rw [TP]; rfl)
  have hb : evB (T (j + 4)) d29.body [some (S' a b d), some (S' c e d), none, none] μ = .exc zeroX [some (S' a b d), some (S' c e d), some (oR (lowR c e d)), none] μ := by
    rw [d29_is]
    simp only [B_cons, B_nil, S_expr, S_asg, E_call, Es_cons, Es_nil, E_var0, E_varS, bind_ok', pair_ok (j + 3), h1, stm_ok', A_var, calm_ok', List.set_cons_zero, List.set_cons_succ, go_next, S_ite, E_ocmp, h2, E_int, cmpT_int, cmp_eqi, hz, decide_true, opt_some, tru_bl, if_true, f1, go_exc]
  simp only [runD, fullArgs]
  have e4 : slots d29 ([S' a b d, S' c e d] ++ List.drop (d29.dfl.length - (d29.np - [S' a b d, S' c e d].length)) d29.dfl) = [some (S' a b d), some (S' c e d), none, none] := rfl
  rw [e4, hb]
  rfl
theorem sover_bad (j : Nat) (h : tysM prog μ v [.cls 4] = some false) : (T (j + 2)).call 29 [S' a b d, v] μ = .exc ⟨1, []⟩ μ := by
  rw [run29]
  have hb : evB (T (j + 1)) d29.body [some (S' a b d), some v, none, none] μ = .exc ⟨1, []⟩ [some (S' a b d), some v, none, none] μ := by
    rw [d29_is]
    simp only [B_cons, S_expr, E_call, Es_cons, Es_nil, E_var0, E_varS, bind_ok', pair_bad j h, stm_exc, go_exc]
  simp only [runD, fullArgs]
  have e4 : slots d29 ([S' a b d, v] ++ List.drop (d29.dfl.length - (d29.np - [S' a b d, v].length)) d29.dfl) = [some (S' a b d), some v, none, none] := rfl
  rw [e4, hb]
  rfl
theorem sadd_bad (j : Nat) (h : (T (j + 1)).call 31 [S' a b d, v] μ = .exc ⟨1, []⟩ μ) : (T (j + 2)).call 25 [S' a b d, v] μ = .exc ⟨1, []⟩ μ := by
  rw [run25]
  simp only [runD, d25, fullArgs, slots]
  simp [h]
end
/-! ### texts -/
theorem ok_str (s : String) : PyData.strOk (Str.ofString s) = true := by
  unfold PyData.strOk
  rw [Str.ofString_eq_toList]
  simp only [List.all_toArray, List.all_map, List.all_eq_true]
  intro c _
  have := c.valid
  simp only [Function.comp]
  refine decide_eq_true ?_
  show c.val.toNat < 1114112
  rcases this with h | h
  · have : c.val.toNat < 55296 := h
    omega
  · exact h.2
theorem ok_append {a b : Str} (ha : PyData.strOk a = true) (hb : PyData.strOk b = true) : PyData.strOk (a ++ b) = true := by
  show (a.cps ++ b.cps).all (· < 0x110000) = true
  rw [Array.all_append]
  exact Bool.and_eq_true_iff.mpr ⟨ha, hb⟩
theorem emp_app (a : Str) : Str.empty ++ a = a := by
  show (⟨#[] ++ a.cps⟩ : Str) = a
  rw [Array.empty_append]
theorem app_len (a b : Str) : (a ++ b).length = a.length + b.length := by
  show (a.cps ++ b.cps).size = _
  rw [Array.size_append]
  rfl
abbrev tx (n : Int) : Str := Str.ofString n.repr
theorem tx_len {n : Int} (h : n.natAbs.log2 < 1920) : (tx n).length ≤ 1921 := PyProof.Rows.int_text_len_1921 h
theorem slash_len : ("/" : Str).length = 1 := by decide +kernel
def rTxt (p : Rat) : Str := if (p.den : Int) = 1 then tx p.num else (tx p.num ++ ("/" : Str)) ++ tx p.den
section
variable {μ : Mem} {a b c e p : Rat} {d f : Int} {v : MV} {k l j : Nat}
theorem bd_log (h : Bd 1900 p) : p.num.natAbs.log2 < 1920 ∧ (p.den : Int).natAbs.log2 < 1920 := by
  have h1 := log_lt h.1 (by decide)
  have h2 := log_lt h.2 (by decide)
  rw [Int.natAbs_natCast]
  omega
theorem rTxt_len (h : Bd 1900 p) : (rTxt p).length ≤ 4000 := by
  obtain ⟨l1, l2⟩ := bd_log h
  have n1 := tx_len l1
  have n2 := tx_len l2
  unfold rTxt
  split
  · omega
  · rw [app_len, app_len, slash_len]
    omega
theorem rTxt_ok (p : Rat) : PyData.strOk (rTxt p) = true := by
  unfold rTxt
  split
  · exact ok_str _
  · exact ok_append (ok_append (ok_str _) (by decide +kernel)) (ok_str _)
theorem str_ok (j : Nat) (h : Bd 1900 p) : (T (j + 1)).call 13 [oR p] μ = .ok (.str (rTxt p)) μ := by
  obtain ⟨l1, l2⟩ := bd_log h
  have n1 := tx_len l1
  have n2 := tx_len l2
  rw [run13]
  refine R.To.is (runD_to rfl rfl ?_)
  simp only [d13, slots]
  have hf : evF (T j) [(.fmt (.fld (.var 0) "n")), (.str "/"), (.fmt (.fld (.var 0) "d"))] Str.empty [some (oR p)] μ = .ok ((tx p.num ++ ("/" : Str)) ++ tx p.den) μ := by
    rw [F_cons (y := tx p.num) (ν := μ) (by simp [fmt_int l1]) (by rw [emp_app, sl]; omega)]
    rw [F_cons (y := "/") (ν := μ) (by simp) (by rw [emp_app, app_len, slash_len, sl]; omega)]
    rw [F_cons (y := tx p.den) (ν := μ) (by simp [fmt_int l2]) (by rw [emp_app, app_len, app_len, slash_len, sl]; omega)]
    rw [emp_app]
    simp only [F_nil]
  have s1 : biM μ .str [.int p.num] = .ok (.str (tx p.num)) μ := small_int (n := 0) l1
  unfold rTxt
  by_cases h1 : (p.den : Int) = 1
  · simp only [List.map_cons, List.map_nil, List.length_cons, List.length_nil, Nat.sub_self, List.replicate_zero, List.append_nil, B_cons, B_nil, S_ite, E_ocmp, E_fld, E_var0, bind_ok', TP, fld_d, fld_n, E_int, cmpT_int, cmp_eqi, h1, decide_true, opt_some, tru_bl, stm_ok', if_true, S_ret, E_ostr, strT_int, s1, go_ret, STo_ok, retT_ret]
    exact ⟨by trivial, by trivial⟩
  · simp only [List.map_cons, List.map_nil, List.length_cons, List.length_nil, Nat.sub_self, List.replicate_zero, List.append_nil, B_cons, B_nil, S_ite, E_ocmp, E_fld, E_var0, bind_ok', TP, fld_d, fld_n, E_int, cmpT_int, cmp_eqi, h1, decide_false, opt_some, tru_bl, stm_ok', Bool.false_eq_true, if_false, go_next, S_ret, E_fstr, hf, go_ret, STo_ok, retT_ret]
    exact ⟨by trivial, by trivial⟩
def plusT (b : Rat) : Str := if 0 < sg b then "+" else ""
def sTxt (a b : Rat) (d : Int) : Str := if sg b = 0 then rTxt a else (((rTxt a ++ plusT b) ++ rTxt b) ++ ("r" : Str)) ++ tx d
theorem plus_len (b : Rat) : (plusT b).length ≤ 1 := by
  unfold plusT
  split <;> decide +kernel
theorem r_len : ("r" : Str).length = 1 := by decide +kernel
theorem sTxt_ok (a b : Rat) (d : Int) : PyData.strOk (sTxt a b d) = true := by
  have hp : PyData.strOk (plusT b) = true := by
    unfold plusT
    split <;> decide +kernel
  unfold sTxt
  split
  · exact rTxt_ok a
  · exact ok_append (ok_append (ok_append (ok_append (rTxt_ok a) hp) (rTxt_ok b)) (by decide +kernel)) (ok_str _)
theorem strR {J : Nat} (h : Bd 1900 p) : strT (T (J + 1)) μ (oR p) = .ok (.str (rTxt p)) μ := strT_obj (meT me3_str) (str_ok J h)
theorem d_log (h : Vd d b) : d.natAbs.log2 < 1920 := by
  rcases h.1 with rfl | rfl | rfl | rfl <;> decide
theorem sstr (j : Nat) (ha : Bd 1900 a) (hb : Bd 1900 b) (v1 : Vd d b) : (T (j + 2)).call 24 [S' a b d] μ = .ok (.str (sTxt a b d)) μ := by
  rw [run24]
  refine R.To.is (runD_to rfl rfl ?_)
  have hs : slots d24 [S' a b d] = [some (S' a b d), none] := rfl
  rw [hs]
  have h1 : evE (T (j + 1)) (.omth "sign" (.fld (.var 0) "b") []) [some (S' a b d), none] μ = .ok (.int (sg b)) μ := e_sign (j := j) (g_b rfl)
  have n1 := rTxt_len ha
  have n2 := rTxt_len hb
  have n3 := plus_len b
  have n4 := tx_len (d_log v1)
  have hf : evF (T (j + 1)) [(.fmt (.fld (.var 0) "a")), (.fmt (.var 1)), (.fmt (.fld (.var 0) "b")), (.str "r"), (.fmt (.fld (.var 0) "d"))] Str.empty [some (S' a b d), some (.str (plusT b))] μ = .ok ((((rTxt a ++ plusT b) ++ rTxt b) ++ ("r" : Str)) ++ tx d) μ := by
    rw [F_cons (y := rTxt a) (ν := μ) (by simp only [E_fmt, g_a (σ := [some (S' a b d), some (.str (plusT b))]) (i := 0) rfl, bind_ok', fmtT_obj, strR ha]) (by rw [emp_app, sl]; omega)]
    rw [F_cons (y := plusT b) (ν := μ) (by
      have : fmtM μ (.str (plusT b)) = .ok (.str (plusT b)) μ := if_pos (by rw [sl]; omega)
      simp only [E_fmt, E_var0, E_varS, bind_ok', fmtT_str, this]) (by rw [emp_app, app_len, sl]; omega)]
    rw [F_cons (y := rTxt b) (ν := μ) (by simp only [E_fmt, g_b (σ := [some (S' a b d), some (.str (plusT b))]) (i := 0) rfl, bind_ok', fmtT_obj, strR hb]) (by rw [emp_app, app_len, app_len, sl]; omega)]
    rw [F_cons (y := "r") (ν := μ) (by simp) (by rw [emp_app, app_len, app_len, app_len, r_len, sl]; omega)]
    rw [F_cons (y := tx d) (ν := μ) (by
      have := fmt_int (μ := μ) (d_log v1)
      simp only [E_fmt, g_d (σ := [some (S' a b d), some (.str (plusT b))]) (i := 0) rfl, bind_ok', fmtT_int, this]
      rfl) (by rw [emp_app, app_len, app_len, app_len, app_len, r_len, sl]; omega)]
    rw [emp_app]
    simp only [F_nil]
  unfold sTxt
  by_cases q : sg b = 0
  · simp only [d24, B_cons, B_nil, S_ite, E_ocmp, h1, bind_ok', E_int, cmpT_int, cmp_eqi, q, decide_true, opt_some, tru_bl, stm_ok', if_true, S_ret, E_ostr, g_a (σ := [some (S' a b d), none]) (i := 0) rfl, strR ha, go_ret, STo_ok, retT_ret]
    exact ⟨by trivial, by trivial⟩
  · have hp : evE (T (j + 1)) (.ite (.ocmp .Gt (.omth "sign" (.fld (.var 0) "b") []) (.int 0)) (.str "+") (.str "")) [some (S' a b d), none] μ = .ok (.str (plusT b)) μ := by
      simp only [E_ite, E_ocmp, h1, bind_ok', E_int, cmpT_int, cmp_gt, opt_some, tru_bl]
      unfold plusT
      by_cases z : 0 < sg b <;> simp only [z, decide_true, decide_false, if_true, Bool.false_eq_true, if_false, E_str]
    simp only [d24, B_cons, B_nil, S_ite, E_ocmp, h1, bind_ok', E_int, cmpT_int, cmp_eqi, q, decide_false, opt_some, tru_bl, stm_ok', Bool.false_eq_true, if_false, go_next, S_asg, hp, A_var, calm_ok', List.set_cons_zero, List.set_cons_succ, S_ret, E_fstr, hf, go_ret, STo_ok, retT_ret]
    exact ⟨by trivial, by trivial⟩
end
end Mch.k03

/-! ## k03: turn numbers, plainly -/
namespace Mch.k03
def rt (r : Nat) : Int := if r = 3 then 1 else if r = 4 then 2 else if r = 5 then 5 else 3
def twoR (r : Nat) : Rat × Rat := if r = 3 then (1, 0) else if r = 5 then (1 / 2, 1 / 2) else (0, 1)
def mulP (d : Int) (x y : Rat × Rat) : Rat × Rat := (x.1 * y.1 + x.2 * y.2 * (d : Rat), x.1 * y.2 + x.2 * y.1)
def stepT (r : Nat) (s : (Rat × Rat) × (Rat × Rat)) : (Rat × Rat) × (Rat × Rat) := (s.2, ((mulP (rt r) (twoR r) s.2).1 - s.1.1, (mulP (rt r) (twoR r) s.2).2 - s.1.2))
def itT (r : Nat) : Nat → (Rat × Rat) × (Rat × Rat)
  | 0 => ((0, 0), (1, 0))
  | n + 1 => stepT r (itT r n)
def tn (r n : Nat) : Rat × Rat := (itT r n).1
def PR (r : Nat) : Nat → Rat × Rat
  | 0 => (1, 0)
  | n + 1 => mulP (rt r) (PR r n) (tn r (n + 1))
abbrev rs : List Nat := [3, 4, 5, 6]
def smallB (q : Rat) : Bool := decide (q.num.natAbs < 2 ^ 30) && decide (q.den < 2 ^ 30)
theorem small_bd {q : Rat} (h : smallB q = true) : Bd 30 q := by
  unfold smallB at h
  rw [Bool.and_eq_true, decide_eq_true_eq, decide_eq_true_eq] at h
  exact h
def fitB (r : Nat) (x : Rat × Rat) : Bool := smallB x.1 && (smallB x.2 && (r != 3 || decide (x.2 = 0)))
theorem fit_all : ∀ r ∈ rs, ∀ n < 15, fitB r (tn r n) = true := by decide +kernel
theorem fit_P : ∀ r ∈ rs, ∀ n < 7, fitB r (PR r n) = true := by decide +kernel
theorem fit_two : ∀ r ∈ rs, fitB r (twoR r) = true := by decide +kernel
theorem F1 : ∀ r ∈ rs, tn r 0 = (0, 0) ∧ tn r 1 = (1, 0) ∧ tn r r = (0, 0) ∧ tn r (2 * r) = (0, 0) ∧ tn r (r - 1) = (1, 0) := by decide +kernel
theorem F2 : ∀ r ∈ rs, ∀ n < r + 1, tn r n = tn r (r - n) := by decide +kernel
theorem F3 : ∀ r ∈ rs, ∀ n < 2 * r, 1 ≤ n → mulP (rt r) (tn r (n + 1)) (tn r (n - 1)) = ((mulP (rt r) (tn r n) (tn r n)).1 - 1, (mulP (rt r) (tn r n) (tn r n)).2 - 0) := by decide +kernel
theorem F4 : ∀ r ∈ rs, ∀ n < r, 1 ≤ n → sgS (tn r n).1 (tn r n).2 (rt r) = 1 := by decide +kernel
theorem F5 : ∀ r ∈ rs, ∀ n < r + 1, tn r (r + n) = (-(tn r n).1, -(tn r n).2) := by decide +kernel
theorem F6 : ∀ r ∈ rs, rt r = [1, 2, 5, 3].getD (r - 3) 0 := by decide
structure Fit (r : Nat) (x : Rat × Rat) : Prop where
  a : Bd 30 x.1
  b : Bd 30 x.2
  v : Vd (rt r) x.2
theorem rt_ok {r : Nat} (h : r ∈ rs) : (rt r = 1 ∨ rt r = 2 ∨ rt r = 3 ∨ rt r = 5) ∧ (rt r = 1 → r = 3) := by
  revert r
  decide
theorem fit_of {r : Nat} {x : Rat × Rat} (hr : r ∈ rs) (h : fitB r x = true) : Fit r x := by
  unfold fitB at h
  rw [Bool.and_eq_true, Bool.and_eq_true] at h
  obtain ⟨h1, h2, h3⟩ := h
  refine ⟨small_bd h1, small_bd h2, (rt_ok hr).1, fun z => ?_⟩
  have e := (rt_ok hr).2 z
  subst e
  simpa using h3
end Mch.k03

/-! ## k03: expressions of Surds, turn numbers -/
namespace Mch.k03
open PySem Mch
section
variable {σ : Env} {μ : Mem} {A B : E} {a b c e : Rat} {d f : Int} {k l j : Nat}
theorem f_add (hA : evE (T (j + 4)) A σ μ = .ok (S' a b d) μ) (hB : evE (T (j + 4)) B σ μ = .ok (S' c e d) μ) (ha : Bd k a) (hb : Bd k b) (hc : Bd l c) (he : Bd l e) (h : k + l + 1 ≤ 8000) (v1 : Vd d b) (v2 : Vd d e) : evE (T (j + 4)) (.obin .Add A B) σ μ = .ok (S' (a + c) (b + e) d) μ := by
  simp only [E_obin, hA, hB, bind_ok']
  rw [binT_obj (meT me4_add) rfl]
  exact sadd j ha hb hc he h v1 v2
theorem f_sub (hA : evE (T (j + 4)) A σ μ = .ok (S' a b d) μ) (hB : evE (T (j + 4)) B σ μ = .ok (S' c e d) μ) (ha : Bd k a) (hb : Bd k b) (hc : Bd l c) (he : Bd l e) (h : k + l + 1 ≤ 8000) (v1 : Vd d b) (v2 : Vd d e) : evE (T (j + 4)) (.obin .Sub A B) σ μ = .ok (S' (a - c) (b - e) d) μ := by
  simp only [E_obin, hA, hB, bind_ok']
  rw [binT_obj (meT me4_sub) rfl]
  exact ssub j ha hb hc he h v1 v2
theorem f_mul (hA : evE (T (j + 4)) A σ μ = .ok (S' a b d) μ) (hB : evE (T (j + 4)) B σ μ = .ok (S' c e d) μ) (ha : Bd k a) (hb : Bd k b) (hc : Bd l c) (he : Bd l e) (h : 2 * (k + l) + 4 ≤ 8000) (v1 : Vd d b) (v2 : Vd d e) : evE (T (j + 4)) (.obin .Mult A B) σ μ = .ok (S' (a * c + b * e * (d : Rat)) (a * e + b * c) d) μ := by
  simp only [E_obin, hA, hB, bind_ok']
  rw [binT_obj (meT me4_mul) rfl]
  exact smul j ha hb hc he h v1 v2
theorem f_neg (hA : evE (T (j + 4)) A σ μ = .ok (S' a b d) μ) (ha : Bd k a) (hb : Bd k b) (h : k ≤ 8000) (v1 : Vd d b) : evE (T (j + 4)) (.oneg A) σ μ = .ok (S' (-a) (-b) d) μ := by
  simp only [E_oneg, hA, bind_ok']
  rw [negT_obj (meT me4_neg)]
  exact sneg j ha hb h v1
theorem f_sign (hA : evE (T (j + 4)) A σ μ = .ok (S' a b d) μ) (ha : Bd k a) (hb : Bd k b) (h : 4 * k + 4 ≤ 8000) (v1 : Vd d b) : evE (T (j + 4)) (.omth "sign" A []) σ μ = .ok (.int (sgS a b d)) μ := by
  rw [E_omth hA (meT me4_sign)]
  simp only [Es_nil, bind_ok']
  exact ssign j ha hb h v1
theorem f_eq (hA : evE (T (j + 2)) A σ μ = .ok (S' a b d) μ) (hB : evE (T (j + 2)) B σ μ = .ok (S' c e f) μ) : evE (T (j + 2)) (.ocmp .Eq A B) σ μ = .ok (.bl (decide (d = f ∧ a = c ∧ b = e))) μ := by
  simp only [E_ocmp, hA, hB, bind_ok']
  rw [cmpT_obj rfl (by rw [TP]; exact me4_eq') othC_self (seq_ok j)]
  rfl
theorem f_ne (hA : evE (T (j + 2)) A σ μ = .ok (S' a b d) μ) (hB : evE (T (j + 2)) B σ μ = .ok (S' c e f) μ) : evE (T (j + 2)) (.ocmp .NotEq A B) σ μ = .ok (.bl (!decide (d = f ∧ a = c ∧ b = e))) μ := by
  simp only [E_ocmp, hA, hB, bind_ok']
  rw [cmpT_ne (meT me4_eq) (meT me4_ne) othC_self (seq_ok j)]
  rfl
/-- equal ones -/
theorem f_ne0 (hA : evE (T (j + 2)) A σ μ = .ok (S' a b d) μ) (hB : evE (T (j + 2)) B σ μ = .ok (S' c e d) μ) (h1 : a = c) (h2 : b = e) : evE (T (j + 2)) (.ocmp .NotEq A B) σ μ = .ok (.bl false) μ := by
  rw [f_ne hA hB]
  simp [h1, h2]
end
section
variable {μ : Mem} {r n : Nat}
abbrev SP (x : Rat × Rat) (d : Int) : MV := S' x.1 x.2 d
theorem vd0 {d : Int} (h : d = 1 ∨ d = 2 ∨ d = 3 ∨ d = 5) : Vd d 0 := ⟨h, fun _ => rfl⟩
theorem small2 {a : Int} {k : Nat} (h : a.natAbs < 2 ^ 30) (hk : 30 ≤ k) : a.natAbs < 2 ^ k := Nat.lt_of_lt_of_le h (Nat.pow_le_pow_right (by decide) hk)
theorem whole (j : Nat) {a d : Int} (h : d = 1 ∨ d = 2 ∨ d = 3 ∨ d = 5) (ha : a.natAbs < 2 ^ 30) : (T (j + 4)).call 32 [.int a, .int d] μ = .ok (S' (a : Rat) 0 d) μ := by
  rw [run32]
  refine R.To.is (runD_to rfl rfl ?_)
  have hs : slots d32 [.int a, .int d] = [some (.int a), some (.int d)] := rfl
  rw [hs]
  have h1 := mk_int (j + 1) (μ := μ) (small2 ha (k := 8000) (by decide))
  have h2 : (T (j + 3)).make 3 [.int 0] μ = .ok (oR (0 : Rat)) μ := by
    have := mk_int (j + 1) (a := 0) (μ := μ) (small2 (by decide) (by decide))
    exact this
  have hm : evE (T (j + 3)) (.mk 4 [(.mk 3 [(.var 0)]), (.mk 3 [(.int 0)]), (.var 1)]) [some (.int a), some (.int d)] μ = .ok (S' (a : Rat) 0 d) μ := by
    refine m_surd (J := j) ?_ ?_ (E_var rfl) (vd0 h)
    · simp only [E_mk, Es_cons, Es_nil, E_var0, bind_ok']
      exact h1
    · simp only [E_mk, Es_cons, Es_nil, E_int, bind_ok']
      exact h2
  simp only [d32, B_cons, B_nil, S_ret, hm, stm_ok', go_ret, STo_ok, retT_ret]
  exact ⟨by trivial, by trivial⟩
theorem cdx_rt (hr : r ∈ rs) : cdxM prog 0 (.int (r : Int)) μ = .ok (.int (rt r)) μ := by
  simp only [rs, List.mem_cons, List.not_mem_nil, or_false] at hr
  rcases hr with rfl | rfl | rfl | rfl <;> rfl
theorem r_le (hr : r ∈ rs) : 3 ≤ r ∧ r ≤ 6 := by
  simp only [rs, List.mem_cons, List.not_mem_nil, or_false] at hr
  omega
theorem cc_ok (j : Nat) {x lo hi : Int} (h : lo ≤ x ∧ x ≤ hi) : (T (j + 3)).call 4 [.int x, .int lo, .int hi] μ = .ok .non μ := by
  rw [check_count j (v := .int x) trivial]
  simp [inI, h.1, h.2]
theorem cc_bad (j : Nat) {x lo hi : Int} (h : ¬ (lo ≤ x ∧ x ≤ hi)) : (T (j + 3)).call 4 [.int x, .int lo, .int hi] μ = .exc ⟨1, []⟩ μ := by
  rw [check_count j (v := .int x) trivial]
  have : inI lo hi (.int x) = false := by
    simp only [inI]
    by_cases h1 : lo ≤ x
    · have : ¬ x ≤ hi := fun z => h ⟨h1, z⟩
      simp [this]
    · simp [h1]
  rw [this]
  rfl
theorem root_ok (j : Nat) (hr : r ∈ rs) : (T (j + 4)).call 33 [.int (r : Int)] μ = .ok (.int (rt r)) μ := by
  rw [run33]
  refine R.To.is (runD_to rfl rfl ?_)
  have hs : slots d33 [.int (r : Int)] = [some (.int (r : Int))] := rfl
  rw [hs]
  have := r_le hr
  simp only [d33, B_cons, B_nil, S_expr, S_ret, E_call, Es_cons, Es_nil, E_var0, E_int, bind_ok', cc_ok j (x := (r : Int)) (lo := 3) (hi := 6) (by omega), stm_ok', go_next, E_cdx, TP, cdx_rt hr, go_ret, STo_ok, retT_ret]
  exact ⟨by trivial, by trivial⟩
theorem root_bad (j : Nat) : (T (j + 4)).call 33 [.int 2] μ = .exc ⟨1, []⟩ μ := by
  rw [run33]
  simp only [runD, d33, fullArgs, slots]
  simp [cc_bad j (x := 2) (lo := 3) (hi := 6) (by decide)]
theorem fit_it (hr : r ∈ rs) (hn : n < 14) : Fit r (itT r n).1 ∧ Fit r (itT r n).2 := ⟨fit_of hr (fit_all r hr n (by omega)), fit_of hr (fit_all r hr (n + 1) (by omega))⟩
abbrev stB : S := .asg (.tup [(.var 6), (.var 7)]) (.tup [(.var 7), (.obin .Sub (.obin .Mult (.var 5) (.var 7)) (.var 6))])
abbrev tB34 : List S := [.asg (.tup [(.var 6), (.var 7)]) (.tup [(.call 32 [(.int 0), (.var 2)]), (.call 32 [(.int 1), (.var 2)])]), .ite (.ocmp .Eq (.var 0) (.int 0)) [.ret (.var 6)] [], .for (.var 4) (.rng [(.obin .Sub (.var 0) (.int 1))]) [stB], .ret (.var 7)]
theorem d34_is : d34.body = .expr (.call 4 [(.var 1), (.int 3), (.int 6)]) :: .expr (.call 4 [(.var 0), (.int 0), (.obin .Mult (.int 2) (.var 1))]) :: .asg (.var 2) (.cdx 0 (.var 1)) :: .asg (.var 3) (.mk 3 [(.int 1), (.int 2)]) ::
  .ite (.ocmp .Eq (.var 1) (.int 3)) [.asg (.var 5) (.call 32 [(.int 1), (.int 1)])] [.asg (.var 5) (.ite (.ocmp .Eq (.var 1) (.int 5)) (.mk 4 [(.var 3), (.var 3), (.int 5)]) (.mk 4 [(.mk 3 [(.int 0)]), (.mk 3 [(.int 1)]), (.var 2)]))] :: tB34 := rfl
theorem rng1 {z : Int} (h : -(2 ^ 62) ≤ z ∧ z < 2 ^ 62) : rngM μ [.int z] = .ok (.rng 0 z.toNat 1) μ := if_pos h
theorem rng2 {a b : Int} (h : -(2 ^ 62) ≤ a ∧ a < 2 ^ 62 ∧ -(2 ^ 62) ≤ b ∧ b < 2 ^ 62) : rngM μ [.int a, .int b] = .ok (.rng a (b - a).toNat 1) μ := if_pos h
theorem turn_b (j : Nat) {h : MV} {o : Option MV} (hr : r ∈ rs) (hn : n ≤ 2 * r) : (evB (T (j + 5)) tB34 [some (.int (n : Int)), some (.int (r : Int)), some (.int (rt r)), some h, o, some (SP (twoR r) (rt r)), none, none] μ).To (retT fun b ν => b = SP (tn r n) (rt r) ∧ ν = μ) := by
  have hr2 := r_le hr
  have hw0 : (T (j + 5)).call 32 [.int 0, .int (rt r)] μ = .ok (SP (0, 0) (rt r)) μ := whole (j + 1) (a := 0) (rt_ok hr).1 (by decide)
  have hw1 : (T (j + 5)).call 32 [.int 1, .int (rt r)] μ = .ok (SP (1, 0) (rt r)) μ := whole (j + 1) (a := 1) (rt_ok hr).1 (by decide)
  simp only [B_cons, S_asg, E_tup, Es_cons, Es_nil, E_call, E_int, E_var0, E_varS, bind_ok', hw0, hw1, newT2, stm_ok', A_tup, Ag_cons, Ag_nil, A_var, List.length_cons, List.length_nil, if_true, calm_ok', go_next, List.set_cons_zero, List.set_cons_succ, S_ite, E_ocmp, cmpT_int, cmp_eqi, opt_some, tru_bl]
  by_cases h0 : n = 0
  · subst h0
    have e0 : ((0 : Nat) : Int) = 0 := rfl
    simp only [e0, decide_true, if_true, S_ret, E_var0, E_varS, stm_ok', go_ret, STo_ok, retT_ret]
    exact ⟨rfl, by trivial⟩
  · have e0 : ¬ (n : Int) = 0 := by omega
    have hrn : rngM μ [.int ((n : Int) - 1)] = .ok (.rng 0 (n - 1) 1) μ := by
      rw [rng1 (by omega)]
      congr 2
      omega
    simp only [e0, decide_false, Bool.false_eq_true, if_false, B_nil, go_next]
    refine RS.To.go ?_
    simp only [S_for, E_rng, Es_cons, Es_nil, E_obin, E_var0, E_int, bind_ok', binT_int, bin_sub, hrn, stm_ok', itM]
    refine forL_to (xs := rngL 0 (n - 1) 1) (I := fun i σ ν => (∃ o, σ = [some (.int (n : Int)), some (.int (r : Int)), some (.int (rt r)), some h, o, some (SP (twoR r) (rt r)), some (SP (itT r i).1 (rt r)), some (SP (itT r i).2 (rt r))]) ∧ ν = μ) (fun i σ ν hI => nth_items rfl i) (fun i x σ ν hx hI => ?_) (fun σ ν hI => ?_) _ 0 _ _ (Nat.zero_le _) (by rw [Tn, rngL_len]; omega) ⟨⟨o, rfl⟩, rfl⟩
    · obtain ⟨⟨o, rfl⟩, rfl⟩ := hI
      have hi := (List.getElem?_eq_some_iff.mp hx).1
      rw [rngL_len] at hi
      refine ⟨_, by simp only [T_var, List.set_cons_zero, List.set_cons_succ]; rfl, ?_⟩
      obtain ⟨f1, f2⟩ := fit_it hr (n := i) (by omega)
      have ft := fit_of hr (fit_two r hr)
      have hm : evE (T (j + 5)) (.obin .Sub (.obin .Mult (.var 5) (.var 7)) (.var 6)) [some (.int (n : Int)), some (.int (r : Int)), some (.int (rt r)), some h, some x, some (SP (twoR r) (rt r)), some (SP (itT r i).1 (rt r)), some (SP (itT r i).2 (rt r))] ν = .ok (SP (itT r (i + 1)).2 (rt r)) ν :=
        f_sub (j := j + 1) (k := 130) (l := 30) (f_mul (j := j + 1) (E_var rfl) (E_var rfl) ft.a ft.b f2.a f2.b (by decide) ft.v f2.v) (E_var rfl) (((ft.a.mul f2.a).add ((ft.b.mul f2.b).times ft.v.lt)).mono (by decide)) (((ft.a.mul f2.b).add (ft.b.mul f2.a)).mono (by decide)) f1.a f1.b (by decide) (ft.v.mul f2.v _ _) f1.v
      simp only [B_cons, B_nil, S_asg, E_tup, Es_cons, Es_nil, hm, E_var0, E_varS, bind_ok', newT2, stm_ok', A_tup, Ag_cons, Ag_nil, A_var, List.length_cons, List.length_nil, if_true, calm_ok', go_next, List.set_cons_zero, List.set_cons_succ, STo_ok, turnT_next]
      exact ⟨⟨_, rfl⟩, by trivial⟩
    · obtain ⟨⟨o, rfl⟩, rfl⟩ := hI
      simp only [goT_next, S_ret, E_var0, E_varS, stm_ok', go_ret, STo_ok, retT_ret]
      rw [rngL_len]
      have e1 : (itT r (n - 1)).2 = tn r n := by
        obtain ⟨m, rfl⟩ := Nat.exists_eq_succ_of_ne_zero h0
        rfl
      rw [e1]
      exact ⟨rfl, by trivial⟩
theorem half_is : Rat.divInt 1 2 = 1 / 2 := by rw [Rat.divInt_eq_div]; rfl
theorem turn_ok (j : Nat) (hr : r ∈ rs) (hn : n ≤ 2 * r) : (T (j + 6)).call 34 [.int (n : Int), .int (r : Int)] μ = .ok (SP (tn r n) (rt r)) μ := by
  have hr2 := r_le hr
  rw [run34]
  refine R.To.is (runD_to rfl rfl ?_)
  have hs : slots d34 [.int (n : Int), .int (r : Int)] = [some (.int (n : Int)), some (.int (r : Int)), none, none, none, none, none, none] := rfl
  rw [hs, d34_is]
  have m1 : mulOk 2 (r : Int) = true := mulOk_l (by decide)
  have hh : (T (j + 5)).make 3 [.int 1, .int 2] μ = .ok (oR (1 / 2 : Rat)) μ := by
    rw [← half_is]
    exact mk_rat (j + 3) (by decide) (small2 (by decide) (by decide)) (small2 (by decide) (by decide))
  have h0 : (T (j + 5)).make 3 [.int 0] μ = .ok (oR (0 : Rat)) μ := mk_int (j + 3) (a := 0) (small2 (by decide) (by decide))
  have h1 : (T (j + 5)).make 3 [.int 1] μ = .ok (oR (1 : Rat)) μ := mk_int (j + 3) (a := 1) (small2 (by decide) (by decide))
  simp only [B_cons, S_expr, S_asg, E_call, Es_cons, Es_nil, E_var0, E_varS, E_int, E_obin, E_mk, bind_ok', cc_ok (j + 2) (x := (r : Int)) (lo := 3) (hi := 6) (by omega), binT_int, bin_mul m1, cc_ok (j + 2) (x := (n : Int)) (lo := 0) (hi := 2 * (r : Int)) (by omega), stm_ok', go_next, E_cdx, TP, cdx_rt hr, A_var, calm_ok', List.set_cons_zero, List.set_cons_succ, hh, S_ite, E_ocmp, cmpT_int, cmp_eqi, opt_some, tru_bl]
  have fin := fun (h : MV) => turn_b (μ := μ) j (h := h) (o := none) hr hn
  simp only [B_cons, B_nil] at fin
  simp only [rs, List.mem_cons, List.not_mem_nil, or_false] at hr
  rcases hr with rfl | rfl | rfl | rfl
  · have hw : (T (j + 5)).call 32 [.int 1, .int 1] μ = .ok (SP (twoR 3) (rt 3)) μ := whole (j + 1) (a := 1) (d := 1) (.inl rfl) (by decide)
    have e : ((3 : Nat) : Int) = 3 := rfl
    simp only [e, decide_true, if_true, E_call, Es_cons, Es_nil, E_int, bind_ok', hw, stm_ok', A_var, calm_ok', List.set_cons_zero, List.set_cons_succ, B_nil, go_next]
    exact fin _
  · have hm : evE (T (j + 5)) (.mk 4 [(.mk 3 [(.int 0)]), (.mk 3 [(.int 1)]), (.var 2)]) [some (.int (n : Int)), some (.int ((4 : Nat) : Int)), some (.int (rt 4)), some (oR (1 / 2 : Rat)), none, none, none, none] μ = .ok (SP (twoR 4) (rt 4)) μ :=
      m_surd (J := j + 2) (by simp only [E_mk, Es_cons, Es_nil, E_int, bind_ok', h0]; rfl) (by simp only [E_mk, Es_cons, Es_nil, E_int, bind_ok', h1]; rfl) (E_var rfl) (fit_of (r := 4) (by decide) (fit_two 4 (by decide))).v
    have e : ¬ ((4 : Nat) : Int) = 3 := by decide
    have e5 : ¬ ((4 : Nat) : Int) = 5 := by decide
    simp only [e, e5, decide_false, Bool.false_eq_true, if_false, E_ite, E_ocmp, E_var0, E_varS, E_int, bind_ok', cmpT_int, cmp_eqi, opt_some, tru_bl, hm, stm_ok', A_var, calm_ok', List.set_cons_zero, List.set_cons_succ, B_nil, go_next]
    exact fin _
  · have hm : evE (T (j + 5)) (.mk 4 [(.var 3), (.var 3), (.int 5)]) [some (.int (n : Int)), some (.int ((5 : Nat) : Int)), some (.int (rt 5)), some (oR (1 / 2 : Rat)), none, none, none, none] μ = .ok (SP (twoR 5) (rt 5)) μ :=
      m_surd (J := j + 2) (E_var rfl) (E_var rfl) E_int (fit_of (r := 5) (by decide) (fit_two 5 (by decide))).v
    have e : ¬ ((5 : Nat) : Int) = 3 := by decide
    have e5 : ((5 : Nat) : Int) = 5 := rfl
    simp only [e, e5, decide_false, decide_true, Bool.false_eq_true, if_false, if_true, E_ite, E_ocmp, E_var0, E_varS, E_int, bind_ok', cmpT_int, cmp_eqi, opt_some, tru_bl] at hm ⊢
    simp only [show (decide ((5 : Int) = 3)) = false by decide, Bool.false_eq_true, if_false, hm, stm_ok', A_var, calm_ok', List.set_cons_zero, List.set_cons_succ, B_nil, go_next]
    exact fin _
  · have hm : evE (T (j + 5)) (.mk 4 [(.mk 3 [(.int 0)]), (.mk 3 [(.int 1)]), (.var 2)]) [some (.int (n : Int)), some (.int ((6 : Nat) : Int)), some (.int (rt 6)), some (oR (1 / 2 : Rat)), none, none, none, none] μ = .ok (SP (twoR 6) (rt 6)) μ :=
      m_surd (J := j + 2) (by simp only [E_mk, Es_cons, Es_nil, E_int, bind_ok', h0]; rfl) (by simp only [E_mk, Es_cons, Es_nil, E_int, bind_ok', h1]; rfl) (E_var rfl) (fit_of (r := 6) (by decide) (fit_two 6 (by decide))).v
    have e : ¬ ((6 : Nat) : Int) = 3 := by decide
    have e5 : ¬ ((6 : Nat) : Int) = 5 := by decide
    simp only [e, e5, decide_false, Bool.false_eq_true, if_false, E_ite, E_ocmp, E_var0, E_varS, E_int, bind_ok', cmpT_int, cmp_eqi, opt_some, tru_bl, hm, stm_ok', A_var, calm_ok', List.set_cons_zero, List.set_cons_succ, B_nil, go_next]
    exact fin _
end
end Mch.k03

/-! ## k03: rationals and roots -/
namespace Mch.k03
theorem sq_nat {n m d : Nat} (h : n * n = d * (m * m)) (hc : Nat.Coprime n m) (hd : d = 2 ∨ d = 3 ∨ d = 5) : False := by
  have h1 : m * m ∣ n * n := ⟨d, by rw [h, Nat.mul_comm]⟩
  have h2 : Nat.Coprime (n * n) (m * m) := Nat.Coprime.mul_left (Nat.Coprime.mul_right hc hc) (Nat.Coprime.mul_right hc hc)
  have h3 : m * m = 1 := Nat.Coprime.eq_one_of_dvd h2.symm h1
  rw [h3, Nat.mul_one] at h
  have h4 : n < 3 := by
    by_cases z : n < 3
    · exact z
    · have : 3 * 3 ≤ n * n := Nat.mul_le_mul (by omega) (by omega)
      omega
  have h5 : n = 0 ∨ n = 1 ∨ n = 2 := by omega
  rcases h5 with rfl | rfl | rfl <;> omega
theorem irr {q : Rat} {d : Int} (hd : d = 2 ∨ d = 3 ∨ d = 5) (h : q * q = (d : Rat)) : False := by
  rw [mul_is, int_is] at h
  have h1 : ((q.den : Int) * q.den) ≠ 0 := dz q q
  have h2 := (Rat.divInt_eq_divInt_iff h1 (by decide)).mp h
  rw [Int.mul_one] at h2
  have h3 : q.num.natAbs * q.num.natAbs = d.natAbs * (q.den * q.den) := by
    have := congrArg Int.natAbs h2
    rw [Int.natAbs_mul, Int.natAbs_mul, Int.natAbs_mul, Int.natAbs_natCast] at this
    exact this
  refine sq_nat h3 q.reduced ?_
  rcases hd with rfl | rfl | rfl <;> decide
theorem sq_nn (a : Rat) : 0 ≤ a * a := by
  rcases Rat.le_total (a := 0) (b := a) with h | h
  · exact Rat.mul_nonneg h h
  · have := Rat.mul_nonneg (a := -a) (b := -a) (by grind) (by grind)
    grind
theorem sq_pos {a : Rat} (h : a ≠ 0) : 0 < a * a := by
  have h1 := sq_nn a
  have h2 : a * a ≠ 0 := by grind
  grind
theorem low_zero {c e : Rat} {d : Int} (v : Vd d e) : c * c - e * e * (d : Rat) = 0 ↔ c = 0 ∧ e = 0 := by
  constructor
  · intro h
    by_cases he : e = 0
    · subst he
      exact ⟨by grind, rfl⟩
    · exfalso
      rcases v.1 with h1 | h1
      · exact he (v.2 h1)
      · exact irr h1 (q := c / e) (by grind)
  · rintro ⟨rfl, rfl⟩
    grind
theorem vd_pos {b : Rat} {d : Int} (v : Vd d b) : (0 : Rat) < (d : Rat) := by
  rcases v.1 with rfl | rfl | rfl | rfl <;> decide
theorem sgS_neg (a b : Rat) (d : Int) : sgS (-a) (-b) d = -sgS a b d := by
  unfold sgS
  have e : (-a) * (-a) - (-b) * (-b) * (d : Rat) = a * a - b * b * (d : Rat) := by grind
  rw [sg_neg, sg_neg, e]
  split <;> split <;> (try split) <;> (try split) <;> (try split) <;> (try split) <;> omega
theorem sg_val (p : Rat) : sg p = 0 ∨ sg p = 1 ∨ sg p = -1 := by
  unfold sg sgn
  split
  · exact .inr (.inl rfl)
  · split
    · exact .inr (.inr rfl)
    · exact .inl rfl
theorem sg_nn {p : Rat} (h : 0 ≤ p) : 0 ≤ sg p := by
  by_cases h0 : p = 0
  · rw [sg_zero.mpr h0]
    decide
  · have : 0 < p := by grind
    have := sg_pos.mpr this
    omega
theorem sgS_sq {a b : Rat} {d : Int} (v : Vd d b) : 0 ≤ sgS (a * a + b * b * (d : Rat)) (a * b + b * a) d := by
  have hd := vd_pos v
  have p1 := sq_nn a
  have p2 : 0 ≤ b * b * (d : Rat) := Rat.mul_nonneg (sq_nn b) (by grind)
  have hA : 0 ≤ a * a + b * b * (d : Rat) := by grind
  have n1 := sg_nn hA
  unfold sgS
  split
  · exact n1
  · rename_i hc
    split
    · rename_i h0
      exfalso
      have hz := sg_zero.mp h0
      have ha : a * a = 0 := by grind
      have ha0 : a = 0 := by grind
      have hB : a * b + b * a = 0 := by grind
      exact hc (.inr (sg_zero.mpr hB))
    · rename_i h0
      split
      · exact n1
      · rename_i hg
        exfalso
        apply hg
        rw [sg_pos]
        have hl : a * a - b * b * (d : Rat) ≠ 0 := fun z => by
          obtain ⟨z1, z2⟩ := (low_zero v).mp z
          apply h0
          rw [sg_zero, z1, z2]
          grind
        have := sq_pos hl
        have e : (a * a + b * b * (d : Rat)) * (a * a + b * b * (d : Rat)) - (a * b + b * a) * (a * b + b * a) * (d : Rat) = (a * a - b * b * (d : Rat)) * (a * a - b * b * (d : Rat)) := by grind
        rw [e]
        exact this
/-- the quotient, times y -/
theorem over_back {a b c e : Rat} {d : Int} (h : c * c - e * e * (d : Rat) ≠ 0) :
    (a * c + b * (-e) * (d : Rat)) / (c * c - e * e * (d : Rat)) * c + (a * (-e) + b * c) / (c * c - e * e * (d : Rat)) * e * (d : Rat) = a ∧ (a * c + b * (-e) * (d : Rat)) / (c * c - e * e * (d : Rat)) * e + (a * (-e) + b * c) / (c * c - e * e * (d : Rat)) * c = b := by
  constructor <;> grind
end Mch.k03

/-! ## k03: calls that fail, products of turn numbers -/
namespace Mch.k03
open PySem Mch
section
variable {μ : Mem} {v : MV}
/-! ### _law_result -/
def resR (μ : Mem) : R MV → R MV
  | .ok v ν => .ok (.tup [.str "told", v]) ν
  | .exc x ν => if x.c = 1 then .ok (.tup [.str "malformed", .non]) ν else (match x.vs with
    | [z] => if x.c = 2 then .ok (.tup [.str "refused", z]) ν else .no
    | _ => .no)
  | .no => .no
abbrev tryB : List S := [S.ite (.cmp .Eq (.bi .len [(.var 1)]) (.int 1)) [.ret (.tup [(.str "told"), (.callv 0 [(.idx (.var 1) (.int 0))])])] [], .ite (.cmp .Eq (.bi .len [(.var 1)]) (.int 2)) [.ret (.tup [(.str "told"), (.callv 0 [(.idx (.var 1) (.int 0)), (.idx (.var 1) (.int 1))])])] [], .ite (.cmp .Eq (.bi .len [(.var 1)]) (.int 3)) [.ret (.tup [(.str "told"), (.callv 0 [(.idx (.var 1) (.int 0)), (.idx (.var 1) (.int 1)), (.idx (.var 1) (.int 2))])])] [], .ite (.cmp .Eq (.bi .len [(.var 1)]) (.int 4)) [.ret (.tup [(.str "told"), (.callv 0 [(.idx (.var 1) (.int 0)), (.idx (.var 1) (.int 1)), (.idx (.var 1) (.int 2)), (.idx (.var 1) (.int 3))])])] [], .ret (.tup [(.str "told"), (.callv 0 [(.idx (.var 1) (.int 0)), (.idx (.var 1) (.int 1)), (.idx (.var 1) (.int 2)), (.idx (.var 1) (.int 3)), (.idx (.var 1) (.int 4))])])]
theorem result_of (k f : Nat) {xs : List MV} {r : R MV} (hb : evB (T k) tryB [some (.fn f), some (.tup xs), none] μ = (r.bind fun v μ => .ok (.tup [.str "told", v]) μ).stm [some (.fn f), some (.tup xs), none] fun v μ => .ok (.ret v) μ) (hr : resR μ r ≠ .no) : (T (k + 1)).call 41 [.fn f, .tup xs] μ = resR μ r := by
  rw [run41]
  have hd : evB (T k) d41.body [some (.fn f), some (.tup xs), none] μ = (match resR μ r with
    | .ok v ν => .ok (.ret v) ν
    | _ => .no) := by
    have e0 : d41.body = [.try2 tryB 1 none [.ret (.tup [(.str "malformed"), .non])] 2 (some 2) [.ret (.tup [(.str "refused"), (.xfld 2 "reason")])]] := rfl
    rw [e0, B_cons, evS, hb]
    cases r with
    | ok v ν => rfl
    | no => exact absurd rfl hr
    | exc x ν =>
      obtain ⟨c, vs⟩ := x
      simp only [resR] at hr ⊢
      by_cases h1 : c = 1
      · subst h1
        rw [if_pos rfl]
        simp only [bind_exc, stm_exc, isX, TP]
        simp [prog, clss, suite, RS.calm]
      · rw [if_neg h1] at hr ⊢
        split at hr
        · rename_i z
          split at hr
          · rename_i h2
            subst h2
            rw [if_pos rfl]
            have ht : (T k).P.clss[2]? = some { fields := ["reason"], init := none, meths := [], up := [2, 0], exc := true } := by rw [TP]; rfl
            have hx : evE (T k) (.xfld 2 "reason") [some (.fn f), some (.tup xs), some (.exn 2 [z])] ν = .ok z ν := by
              simp only [evE, List.getElem?_cons_succ, List.getElem?_cons_zero, ht]
              rfl
            have ix1 : isX (T k).P ⟨2, [z]⟩ 1 = some false := by rw [TP]; rfl
            have ix2 : isX (T k).P ⟨2, [z]⟩ 2 = some true := by rw [TP]; rfl
            simp only [bind_exc, stm_exc, ix1, ix2, suite, List.length_cons, List.length_nil, List.set_cons_succ, List.set_cons_zero, B_cons, B_nil, S_ret, E_tup, Es_cons, Es_nil, E_str, bind_ok', hx, newT2, stm_ok', go_ret]
            rfl
          · exact absurd rfl hr
        · exact absurd rfl hr
  simp only [runD, fullArgs]
  have e4 : slots d41 ([MV.fn f, .tup xs] ++ List.drop (d41.dfl.length - (d41.np - [MV.fn f, .tup xs].length)) d41.dfl) = [some (.fn f), some (.tup xs), none] := rfl
  rw [e4, hd]
  cases hq : resR μ r with
  | ok v ν => rfl
  | no => exact absurd hq hr
  | exc x ν =>
    exfalso
    cases r with
    | ok v ν => cases hq
    | no => cases hq
    | exc x ν =>
      simp only [resR] at hq
      split at hq
      · cases hq
      · split at hq
        · split at hq <;> cases hq
        · cases hq
theorem result2 (k f : Nat) {v w : MV} {r : R MV} (h : (T k).call f [v, w] μ = r) (hr : resR μ r ≠ .no) : (T (k + 1)).call 41 [.fn f, .tup [v, w]] μ = resR μ r := by
  refine result_of k f ?_ hr
  have hl : ∀ a b, biM μ .len [.tup [a, b]] = .ok (.int 2) μ := fun _ _ => rfl
  simp [hl, idxM, ixM, h]
  cases r <;> rfl
theorem result3 (k f : Nat) {v w u : MV} {r : R MV} (h : (T k).call f [v, w, u] μ = r) (hr : resR μ r ≠ .no) : (T (k + 1)).call 41 [.fn f, .tup [v, w, u]] μ = resR μ r := by
  refine result_of k f ?_ hr
  have hl : ∀ a b c, biM μ .len [.tup [a, b, c]] = .ok (.int 3) μ := fun _ _ _ => rfl
  simp [hl, idxM, ixM, h]
  cases r <;> rfl
theorem result1 (k f : Nat) {v : MV} {r : R MV} (h : (T k).call f [v] μ = r) (hr : resR μ r ≠ .no) : (T (k + 1)).call 41 [.fn f, .tup [v]] μ = resR μ r := by
  refine result_of k f ?_ hr
  have hl : ∀ a, biM μ .len [.tup [a]] = .ok (.int 1) μ := fun _ => rfl
  simp [hl, idxM, ixM, h]
  cases r <;> rfl
end
section
variable {μ : Mem} {v : MV} {r n : Nat} {a b c e : Rat} {d f : Int}
/-! ### turn_product -/
theorem fit_P' (hr : r ∈ rs) (hn : n < 7) : Fit r (PR r n) := fit_of hr (fit_P r hr n hn)
theorem fit_t (hr : r ∈ rs) (hn : n < 15) : Fit r (tn r n) := fit_of hr (fit_all r hr n hn)
theorem SP_mul {σ : Env} {A B : E} {j : Nat} {x y : Rat × Rat} (hr : r ∈ rs) (hA : evE (T (j + 4)) A σ μ = .ok (SP x (rt r)) μ) (hB : evE (T (j + 4)) B σ μ = .ok (SP y (rt r)) μ) (fx : Fit r x) (fy : Fit r y) : evE (T (j + 4)) (.obin .Mult A B) σ μ = .ok (SP (mulP (rt r) x y) (rt r)) μ :=
  f_mul hA hB fx.a fx.b fy.a fy.b (by decide) fx.v fy.v
theorem mulP_bd {x y : Rat × Rat} (fx : Fit r x) (fy : Fit r y) : Bd 130 (mulP (rt r) x y).1 ∧ Bd 130 (mulP (rt r) x y).2 ∧ Vd (rt r) (mulP (rt r) x y).2 :=
  ⟨((fx.a.mul fy.a).add ((fx.b.mul fy.b).times fx.v.lt)).mono (by decide), ((fx.a.mul fy.b).add (fx.b.mul fy.a)).mono (by decide), fx.v.mul fy.v _ _⟩
theorem prod_ok (j : Nat) (hr : r ∈ rs) (hn : n < r) : (T (j + 7)).call 35 [.int (n : Int), .int (r : Int)] μ = .ok (SP (PR r n) (rt r)) μ := by
  have hr2 := r_le hr
  rw [run35]
  refine R.To.is (runD_to rfl rfl ?_)
  have hs : slots d35 [.int (n : Int), .int (r : Int)] = [some (.int (n : Int)), some (.int (r : Int)), none, none] := rfl
  rw [hs]
  have hw : (T (j + 6)).call 32 [.int 1, .int (rt r)] μ = .ok (SP (1, 0) (rt r)) μ := whole (j + 2) (a := 1) (rt_ok hr).1 (by decide)
  simp only [d35, B_cons, S_expr, S_asg, E_call, Es_cons, Es_nil, E_var0, E_varS, E_int, E_obin, bind_ok', cc_ok (j + 3) (x := (r : Int)) (lo := 3) (hi := 6) (by omega), binT_int, bin_sub, bin_add, cc_ok (j + 3) (x := (n : Int)) (lo := 0) (hi := (r : Int) - 1) (by omega), stm_ok', go_next, E_cdx, TP, cdx_rt hr, hw, A_var, calm_ok', List.set_cons_zero, List.set_cons_succ]
  have hrn : rngM μ [.int 1, .int ((n : Int) + 1)] = .ok (.rng 1 n 1) μ := by
    rw [rng2 (by omega)]
    congr 2
    omega
  refine RS.To.go ?_
  simp only [S_for, E_rng, Es_cons, Es_nil, E_obin, E_var0, E_int, bind_ok', binT_int, bin_add, hrn, stm_ok', itM]
  refine forL_to (xs := rngL 1 n 1) (I := fun i σ ν => (∃ o, σ = [some (.int (n : Int)), some (.int (r : Int)), some (SP (PR r i) (rt r)), o]) ∧ ν = μ) (fun i σ ν hI => nth_items rfl i) (fun i x σ ν hx hI => ?_) (fun σ ν hI => ?_) _ 0 _ _ (Nat.zero_le _) (by rw [Tn, rngL_len]; omega) ⟨⟨none, rfl⟩, rfl⟩
  · obtain ⟨⟨o, rfl⟩, rfl⟩ := hI
    have hi := (List.getElem?_eq_some_iff.mp hx).1
    rw [rngL_len] at hi
    have ex : x = .int ((i + 1 : Nat) : Int) := by
      unfold rngL at hx
      rw [List.getElem?_map, List.getElem?_range hi] at hx
      simp only [Option.map_some, Option.some.injEq] at hx
      have e3 : (1 : Int) + (i : Int) * 1 = ((i + 1 : Nat) : Int) := by omega
      rw [← hx, e3]
    subst ex
    refine ⟨_, by simp only [T_var, List.set_cons_zero, List.set_cons_succ]; rfl, ?_⟩
    have ht := turn_ok (μ := ν) j hr (n := i + 1) (by omega)
    have hm : evE (T (j + 6)) (.obin .Mult (.var 2) (.call 34 [(.var 3), (.var 1)])) [some (.int (n : Int)), some (.int (r : Int)), some (SP (PR r i) (rt r)), some (.int ((i + 1 : Nat) : Int))] ν = .ok (SP (PR r (i + 1)) (rt r)) ν :=
      SP_mul (j := j + 2) hr (E_var rfl) (by simp only [E_call, Es_cons, Es_nil, E_var0, E_varS, bind_ok']; exact ht) (fit_P' hr (by omega)) (fit_t hr (by omega))
    simp only [B_cons, B_nil, S_asg, hm, stm_ok', A_var, calm_ok', go_next, List.set_cons_zero, List.set_cons_succ, STo_ok, turnT_next]
    exact ⟨⟨_, rfl⟩, by trivial⟩
  · obtain ⟨⟨o, rfl⟩, rfl⟩ := hI
    simp only [goT_next, B_cons, B_nil, S_ret, E_var0, E_varS, stm_ok', go_ret, STo_ok, retT_ret, rngL_len]
    exact ⟨by trivial, by trivial⟩
/-! ### what is refused -/
theorem turn_bad1 (j : Nat) {n r : Int} (h : ¬ (3 ≤ r ∧ r ≤ 6)) : (T (j + 4)).call 34 [.int n, .int r] μ = .exc ⟨1, []⟩ μ := by
  rw [run34]
  have hb : evB (T (j + 3)) d34.body [some (.int n), some (.int r), none, none, none, none, none, none] μ = .exc ⟨1, []⟩ [some (.int n), some (.int r), none, none, none, none, none, none] μ := by
    rw [d34_is]
    simp only [B_cons, S_expr, E_call, Es_cons, Es_nil, E_var0, E_varS, E_int, bind_ok', cc_bad j h, stm_exc, go_exc]
  simp only [runD, fullArgs]
  have e4 : slots d34 ([MV.int n, .int r] ++ List.drop (d34.dfl.length - (d34.np - [MV.int n, .int r].length)) d34.dfl) = [some (.int n), some (.int r), none, none, none, none, none, none] := rfl
  rw [e4, hb]
  rfl
theorem turn_bad2 (j : Nat) {n r : Int} (h : 3 ≤ r ∧ r ≤ 6) (h2 : ¬ (0 ≤ n ∧ n ≤ 2 * r)) : (T (j + 4)).call 34 [.int n, .int r] μ = .exc ⟨1, []⟩ μ := by
  rw [run34]
  have m1 : mulOk 2 r = true := mulOk_l (by decide)
  have hb : evB (T (j + 3)) d34.body [some (.int n), some (.int r), none, none, none, none, none, none] μ = .exc ⟨1, []⟩ [some (.int n), some (.int r), none, none, none, none, none, none] μ := by
    rw [d34_is]
    simp only [B_cons, S_expr, E_call, Es_cons, Es_nil, E_var0, E_varS, E_int, E_obin, binT_int, bin_mul m1, bind_ok', cc_ok j h, cc_bad j h2, stm_ok', go_next, stm_exc, go_exc]
  simp only [runD, fullArgs]
  have e4 : slots d34 ([MV.int n, .int r] ++ List.drop (d34.dfl.length - (d34.np - [MV.int n, .int r].length)) d34.dfl) = [some (.int n), some (.int r), none, none, none, none, none, none] := rfl
  rw [e4, hb]
  rfl
theorem prod_bad (j : Nat) {n r : Int} (h : 3 ≤ r ∧ r ≤ 6) (h2 : ¬ (0 ≤ n ∧ n ≤ r - 1)) : (T (j + 4)).call 35 [.int n, .int r] μ = .exc ⟨1, []⟩ μ := by
  rw [run35]
  have hb : evB (T (j + 3)) d35.body [some (.int n), some (.int r), none, none] μ = .exc ⟨1, []⟩ [some (.int n), some (.int r), none, none] μ := by
    simp only [d35, B_cons, S_expr, E_call, Es_cons, Es_nil, E_var0, E_varS, E_int, E_obin, binT_int, bin_sub, bind_ok', cc_ok j h, cc_bad j h2, stm_ok', go_next, stm_exc, go_exc]
  simp only [runD, fullArgs]
  have e4 : slots d35 ([MV.int n, .int r] ++ List.drop (d35.dfl.length - (d35.np - [MV.int n, .int r].length)) d35.dfl) = [some (.int n), some (.int r), none, none] := rfl
  rw [e4, hb]
  rfl
theorem te_surd (j : Nat) {x y z : MV} {q : R MV} (h : (T (j + 3)).make 4 [x, y, z] μ = q) : (T (j + 4)).call 42 [x, y, z] μ = q := by
  rw [run42]
  simp only [runD, d42, fullArgs, slots]
  simp [h]
  cases q <;> rfl
theorem te_over (j : Nat) {q : R MV} (h : (T j).call 29 [S' a b d, v] μ = q) : (T (j + 1)).call 43 [S' a b d, v] μ = q := by
  rw [run43]
  have x2 : evE (T j) (.omth "over" (.var 0) [(.var 1)]) [some (S' a b d), some v] μ = q := by
    rw [E_omth (f := 29) (E_var rfl) (meT me4_over)]
    simp [h]
  simp only [runD, d43, fullArgs, slots]
  simp [x2]
  cases q <;> rfl
theorem te_plus (j : Nat) {q : R MV} (ho : othB 4 μ v = true) (h : (T j).call 25 [S' a b d, v] μ = q) : (T (j + 1)).call 44 [S' a b d, v] μ = q := by
  rw [run44]
  have x2 : evE (T j) (.obin .Add (.var 0) (.var 1)) [some (S' a b d), some v] μ = q := by
    simp only [E_obin, E_var0, E_varS, bind_ok']
    rw [binT_obj (meT me4_add) ho]
    exact h
  simp only [runD, d44, fullArgs, slots]
  simp [x2]
  cases q <;> rfl
def malS : MV := .str "malformed"
def Mal (k : Nat) (x : MV) : Prop := ∃ f gs, x = .tup [.fn f, .tup gs] ∧ ∀ ν, (T (k + 12)).call 41 [.fn f, .tup gs] ν = .ok (.tup [malS, .non]) ν
theorem tst_bad (j : Nat) {a b : Rat} {z : MV} (h : (z = .int 1 ∧ b ≠ 0) ∨ z = .int 7 ∨ z = .bl true) : evE (T (j + 2)) tst22 [some (.obj 4 []), some (oR a), some (oR b), some z] μ = .ok (.bl true) μ := by
  have hs : evE (T (j + 2)) (.omth "sign" (.var 2) []) [some (.obj 4 []), some (oR a), some (oR b), some z] μ = .ok (.int (sg b)) μ := e_sign (j := j + 1) (E_var rfl)
  rcases h with ⟨rfl, hb⟩ | rfl | rfl
  · have hin : cmpM μ .NotIn (.int 1) (.tup [.int 1, .int 2, .int 3, .int 5]) = some false := rfl
    have hty : tysM prog μ (.int 1) [.bool] = some false := rfl
    have h0 : ¬ sg b = 0 := fun z => hb (sg_zero.mp z)
    simp only [tst22, E_or, E_cmp, E_var0, E_varS, E_tup, Es_cons, Es_nil, E_int, bind_ok', newT4, hin, opt_some, tru_bl, Bool.false_eq_true, if_false, E_isin, TP, hty, E_and, E_ocmp, cmpT_int, cmp_eqi, decide_true, if_true, hs, cmp_nei, h0, decide_false, Bool.not_false]
  · have hin : cmpM μ .NotIn (.int 7) (.tup [.int 1, .int 2, .int 3, .int 5]) = some true := rfl
    simp only [tst22, E_or, E_cmp, E_var0, E_varS, E_tup, Es_cons, Es_nil, E_int, bind_ok', newT4, hin, opt_some, tru_bl, if_true]
  · have hin : cmpM μ .NotIn (.bl true) (.tup [.int 1, .int 2, .int 3, .int 5]) = some false := rfl
    have hty : tysM prog μ (.bl true) [.bool] = some true := rfl
    simp only [tst22, E_or, E_cmp, E_var0, E_varS, E_tup, Es_cons, Es_nil, E_int, bind_ok', newT4, hin, opt_some, tru_bl, Bool.false_eq_true, if_false, E_isin, TP, hty, if_true]
theorem mal1 (k : Nat) {y z : MV} : Mal k (.tup [.fn 42, .tup [.int 1, y, z]]) :=
  ⟨42, _, rfl, fun ν => result3 (k + 11) 42 (te_surd (k + 7) (mk_surd_bad1 (k + 7) (v := .int 1) trivial)) (fun z => by cases z)⟩
theorem mal2 (k : Nat) {z : MV} (h : (z = .int 1 ∧ b ≠ 0) ∨ z = .int 7 ∨ z = .bl true) : Mal k (.tup [.fn 42, .tup [oR a, oR b, z]]) :=
  ⟨42, _, rfl, fun ν => result3 (k + 11) 42 (te_surd (k + 7) (mk_surd_bad2 (k + 7) (tst_bad (k + 7) h))) (fun z => by cases z)⟩
theorem mal3 (k : Nat) (h : d ≠ f) : Mal k (.tup [.fn 44, .tup [S' a b d, S' c e f]]) :=
  ⟨44, _, rfl, fun ν => result2 (k + 11) 44 (te_plus (k + 10) rfl (sadd_bad (k + 8) (pair_bad2 (k + 8) h))) (fun z => by cases z)⟩
theorem mal4 (k : Nat) : Mal k (.tup [.fn 44, .tup [S' a b d, .int 1]]) :=
  ⟨44, _, rfl, fun ν => result2 (k + 11) 44 (te_plus (k + 10) rfl (sadd_bad (k + 8) (pair_bad (k + 8) (ty_nsurd (v := .int 1) trivial)))) (fun z => by cases z)⟩
theorem mal5 (k : Nat) {n r : Int} (h : ¬ (3 ≤ r ∧ r ≤ 6) ∨ ((3 ≤ r ∧ r ≤ 6) ∧ ¬ (0 ≤ n ∧ n ≤ 2 * r))) : Mal k (.tup [.fn 34, .tup [.int n, .int r]]) :=
  ⟨34, _, rfl, fun ν => result2 (k + 11) 34 (h.elim (fun h => turn_bad1 (k + 7) h) fun h => turn_bad2 (k + 7) h.1 h.2) (fun z => by cases z)⟩
theorem mal6 (k : Nat) {n r : Int} (h : 3 ≤ r ∧ r ≤ 6) (h2 : ¬ (0 ≤ n ∧ n ≤ r - 1)) : Mal k (.tup [.fn 35, .tup [.int n, .int r]]) :=
  ⟨35, _, rfl, fun ν => result2 (k + 11) 35 (prod_bad (k + 7) h h2) (fun z => by cases z)⟩
theorem mal7 (k : Nat) : Mal k (.tup [.fn 33, .tup [.int 2]]) :=
  ⟨33, _, rfl, fun ν => result1 (k + 11) 33 (root_bad (k + 7)) (fun z => by cases z)⟩
theorem mal8 (k : Nat) : Mal k (.tup [.fn 43, .tup [S' a b d, oR c]]) :=
  ⟨43, _, rfl, fun ν => result2 (k + 11) 43 (te_over (k + 10) (sover_bad (k + 8) ty_surdR)) (fun z => by cases z)⟩
end
end Mch.k03

/-! ## k03: the law, from its end -/
namespace Mch.k03
open PySem Mch
abbrev Tail (k j : Nat) (σ : Env) (ν : Mem) : Prop := (evB (T (k + 12)) (d45.body.drop j) σ ν).To (retT fun r _ => r = .bl true)
structure Cx (σ : Env) (a b c e : Rat) (d : Int) : Prop where
  len : σ.length = 24
  h2 : Has σ 2 (.int d)
  h12 : Has σ 12 (oR a)
  h13 : Has σ 13 (oR b)
  h14 : Has σ 14 (oR c)
  h15 : Has σ 15 (oR e)
  h16 : Has σ 16 (S' a b d)
  h17 : Has σ 17 (S' c e d)
  h18 : Has σ 18 (oR (d : Rat))
theorem Cx.set {σ : Env} {a b c e : Rat} {d : Int} (h : Cx σ a b c e d) {j : Nat} {o : Option MV} (hj : (j < 12 ∧ j ≠ 2) ∨ 18 < j) : Cx (σ.set j o) a b c e d :=
  ⟨by rw [List.length_set]; exact h.len, h.h2.ne (by omega), h.h12.ne (by omega), h.h13.ne (by omega), h.h14.ne (by omega), h.h15.ne (by omega), h.h16.ne (by omega), h.h17.ne (by omega), h.h18.ne (by omega)⟩
def lowL (r : Nat) : List MV := (List.range (2 * r + 1)).map fun n => SP (tn r n) (rt r)
section
variable {σ : Env} {ν μ : Mem} {a b c e : Rat} {d : Int} {r m : Nat}
theorem idx_low {n : Nat} (hl : lstAt ν m = some (lowL r)) (hn : n ≤ 2 * r) : idxM ν (.ref m) (.int (n : Int)) = some (SP (tn r n) (rt r)) := by
  have hlen : (lowL r).length = 2 * r + 1 := by simp [lowL]
  have hi : ixM (lowL r).length (n : Int) = some n := by
    unfold ixM
    rw [if_pos (by omega), if_pos (by rw [hlen]; omega), Int.toNat_natCast]
  simp only [idxM, hl, Option.bind_some, hi]
  unfold lowL
  rw [List.getElem?_map, List.getElem?_range (by omega)]
  rfl
theorem str_self {x : Str} (h : PyData.strOk x = true) : toD μ 39 (.str x) = some (.str x) := if_pos h
theorem mal_self (μ : Mem) : toD μ 39 malS = some (.str "malformed") := str_self (by decide +kernel)
theorem map_const {L : List MV} {n : Nat} (h : L.length = n) : L.map (fun _ => malS) = List.replicate n malS := by
  rw [← h]
  induction L generalizing n with
  | nil => rfl
  | cons x L ih => simp [List.replicate_succ, ih rfl]
theorem t24 (k : Nat) {q : Nat} {L : List MV} (hL : σ.length = 24) (h11 : Has σ 11 (.ref q)) (hl : lstAt ν q = some L) (hn : L.length = 12) (hok : ∀ x ∈ L, Mal k x) : Tail k 24 σ ν := by
  show (evB (T (k + 12)) (d45.body.drop 24) σ ν).To _
  have hd : d45.body.drop 24 = [.ret (.ocmp .Eq (.comp (.idx (.call 41 [(.var 22), (.var 23)]) (.int 0)) (.tup [(.var 22), (.var 23)]) (.var 11) (.bl true) [22, 23]) (.obin .Mult (.lst [(.str "malformed")]) (.int 12)))] := rfl
  rw [hd]
  have hcomp : evE (T (k + 12)) (.comp (.idx (.call 41 [(.var 22), (.var 23)]) (.int 0)) (.tup [(.var 22), (.var 23)]) (.var 11) (.bl true) [22, 23]) σ ν = .ok (.ref ν.length) (ν ++ [.lst (L.map fun _ => malS)]) := by
    rw [← fm_some]
    refine comp_pure (J := .ref q) (xs := L) _ (by rw [Tn]; omega) (by rw [sl]; omega) (h11.ev _ _) hl fun x hm => ?_
    obtain ⟨f, gs, rfl, hf⟩ := hok x hm
    refine ⟨_, by simp only [bindT, bindT.go, Option.bind_some, List.length_cons, List.length_nil, if_true]; rfl, ?_⟩
    generalize hσ : wipeM σ [22, 23] = σ0
    have len0 : σ0.length = 24 := by rw [← hσ]; simp only [wipe_cons, wipe_nil, List.length_set, hL]
    have g22 : Has ((σ0.set 22 (some (.fn f))).set 23 (some (.tup gs))) 22 (.fn f) := (Has.self (by rw [len0]; decide)).ne (by decide)
    have g23 : Has ((σ0.set 22 (some (.fn f))).set 23 (some (.tup gs))) 23 (.tup gs) := Has.self (by simp [len0])
    have hi : idxM ν (.tup [malS, .non]) (.int 0) = some malS := rfl
    unfold turnE
    simp only [E_bl, bind_ok', tru_bl, if_true, E_idx, E_call, Es_cons, Es_nil, g22.ev, g23.ev, hf ν, E_int, hi, opt_some]
  rw [map_const hn] at hcomp
  generalize hm1 : ν ++ [.lst (List.replicate 12 malS)] = ν1 at hcomp
  have hmul : binM (ν1 ++ [.lst [.str "malformed"]]) .Mult (.ref ν1.length) (.int 12) = .ok (.ref (ν1 ++ [.lst [.str "malformed"]] : Mem).length) ((ν1 ++ [.lst [.str "malformed"]]) ++ [.lst (List.replicate 12 malS)]) := by
    have e0 : (ν1 ++ [Cell.lst [.str "malformed"]])[ν1.length]? = some (.lst [.str "malformed"]) := get_new
    simp only [binM, e0]
    rw [if_pos (by decide)]
    exact newL_ok' (by decide)
  have heq : cmpM ((ν1 ++ [.lst [.str "malformed"]]) ++ [.lst (List.replicate 12 malS)]) .Eq (.ref ν.length) (.ref (ν1 ++ [.lst [.str "malformed"]] : Mem).length) = some true := by
    have l1 : lstAt ν1 ν.length = some (List.replicate 12 malS) := by rw [← hm1]; exact lstAt_new
    have l2 := (Grow.app [] (ν1 ++ [.lst [.str "malformed"]]) [.lst (List.replicate 12 malS)]).lst ((Grow.app [] ν1 [.lst [.str "malformed"]]).lst l1 (by simp)) (by simp)
    exact eq_refs l2 lstAt_new fun x hx => by
      have := List.eq_of_mem_replicate hx
      rw [this]
      exact ⟨_, mal_self _⟩
  simp only [B_cons, S_ret, E_ocmp, hcomp, bind_ok', E_obin, E_lst, Es_cons, Es_nil, E_str, newL1, E_int, binT_ref, hmul, cmpT_ref, heq, opt_some, stm_ok', go_ret, STo_ok, retT_ret]
/-- tried + [..] -/
theorem app_e {k q : Nat} {L M : List MV} {es : List E} (h11 : Has σ 11 (.ref q)) (hq : ν[q]? = some (.lst L)) (he : evE (T (k + 12)) (.lst es) σ ν = .ok (.ref ν.length) (ν ++ [.lst M])) (hz : L.length + M.length ≤ 100) :
    evE (T (k + 12)) (.obin .Add (.var 11) (.lst es)) σ ν = .ok (.ref (ν ++ [.lst M] : Mem).length) ((ν ++ [.lst M]) ++ [.lst (L ++ M)]) := by
  have e1 : (ν ++ [Cell.lst M])[q]? = some (.lst L) := (Grow.app [] ν _).get hq (by simp)
  have e2 : (ν ++ [Cell.lst M])[ν.length]? = some (.lst M) := get_new
  have hadd : binM (ν ++ [Cell.lst M]) .Add (.ref q) (.ref ν.length) = .ok (.ref (ν ++ [.lst M] : Mem).length) ((ν ++ [.lst M]) ++ [.lst (L ++ M)]) := by
    simp only [binM, e1, e2]
    exact newL_ok' (by rw [sl, List.length_append]; omega)
  rw [E_obin, h11.ev, bind_ok', he]
  simp only [bind_ok', binT_ref, hadd]
theorem newL4 {a b c d : MV} : newL [a, b, c, d] μ = .ok (.ref μ.length) (μ ++ [.lst [a, b, c, d]]) := newL_ok' (by show 4 ≤ sizeLine; decide)
theorem mkz (k : Nat) : (T (k + 12)).make 3 [.int 0] μ = .ok (oR (0 : Rat)) μ := mk_int (k + 10) (a := 0) (small2 (by decide) (by decide))
theorem mko (k : Nat) : (T (k + 12)).make 3 [.int 1] μ = .ok (oR (1 : Rat)) μ := mk_int (k + 10) (a := 1) (small2 (by decide) (by decide))
theorem t23 (k : Nat) {q : Nat} {L : List MV} (hr : r ∈ rs) (hx : Cx σ a b c e d) (h7 : Has σ 7 (.int (r : Int))) (h11 : Has σ 11 (.ref q)) (hq : ν[q]? = some (.lst L)) (hn : L.length = 8) (hok : ∀ x ∈ L, Mal k x) : Tail k 23 σ ν := by
  show (evB (T (k + 12)) (d45.body.drop 23) σ ν).To _
  have hd : d45.body.drop 23 = .asg (.var 11) (.obin .Add (.var 11) (.lst [(.tup [(.fn 34), (.tup [(.obin .Add (.obin .Mult (.int 2) (.var 7)) (.int 1)), (.var 7)])]), (.tup [(.fn 35), (.tup [(.var 7), (.var 7)])]), (.tup [(.fn 33), (.tup [(.int 2)])]), (.tup [(.fn 43), (.tup [(.var 16), (.var 12)])])])) :: d45.body.drop 24 := rfl
  rw [hd]
  have hr2 := r_le hr
  have m1 : mulOk 2 (r : Int) = true := mulOk_l (by decide)
  obtain ⟨M, hM, hMal, he⟩ : ∃ M : List MV, M.length = 4 ∧ (∀ x ∈ M, Mal k x) ∧ evE (T (k + 12)) (.lst [(.tup [(.fn 34), (.tup [(.obin .Add (.obin .Mult (.int 2) (.var 7)) (.int 1)), (.var 7)])]), (.tup [(.fn 35), (.tup [(.var 7), (.var 7)])]), (.tup [(.fn 33), (.tup [(.int 2)])]), (.tup [(.fn 43), (.tup [(.var 16), (.var 12)])])]) σ ν = .ok (.ref ν.length) (ν ++ [.lst M]) := by
    refine ⟨[.tup [.fn 34, .tup [.int (2 * (r : Int) + 1), .int (r : Int)]], .tup [.fn 35, .tup [.int (r : Int), .int (r : Int)]], .tup [.fn 33, .tup [.int 2]], .tup [.fn 43, .tup [S' a b d, oR a]]], rfl, fun x hm => ?_, ?_⟩
    · simp only [List.mem_cons, List.not_mem_nil, or_false] at hm
      rcases hm with rfl | rfl | rfl | rfl
      · exact mal5 k (.inr ⟨by omega, by omega⟩)
      · exact mal6 k (by omega) (by omega)
      · exact mal7 k
      · exact mal8 k
    · simp only [E_lst, E_tup, Es_cons, Es_nil, E_fn, E_obin, E_int, h7.ev, hx.h16.ev, hx.h12.ev, bind_ok', binT_int, bin_mul m1, bin_add, newT1, newT2, newL4]
  have hlen : (L ++ M).length = 12 := by rw [List.length_append, hn, hM]
  simp only [B_cons, S_asg, app_e h11 hq he (by omega), stm_ok', A_var, calm_ok', go_next]
  exact t24 k (by rw [List.length_set]; exact hx.len) (Has.self (by rw [hx.len]; decide)) lstAt_new hlen fun x hm => (List.mem_append.mp hm).elim (hok x) (hMal x)
theorem t22 (k : Nat) {q : Nat} {L : List MV} (hr : r ∈ rs) (hx : Cx σ a b c e d) (h7 : Has σ 7 (.int (r : Int))) (h11 : Has σ 11 (.ref q)) (hq : ν[q]? = some (.lst L)) (hn : L.length = 4) (hok : ∀ x ∈ L, Mal k x) : Tail k 22 σ ν := by
  show (evB (T (k + 12)) (d45.body.drop 22) σ ν).To _
  have hd : d45.body.drop 22 = .asg (.var 11) (.obin .Add (.var 11) (.lst [(.tup [(.fn 44), (.tup [(.var 16), (.mk 4 [(.mk 3 [(.int 1)]), (.mk 3 [(.int 0)]), (.ite (.ocmp .NotEq (.var 2) (.int 5)) (.int 5) (.int 2))])])]), (.tup [(.fn 44), (.tup [(.var 16), (.int 1)])]), (.tup [(.fn 34), (.tup [(.int 1), (.int 7)])]), (.tup [(.fn 34), (.tup [(.oneg (.int 1)), (.int 4)])])])) :: d45.body.drop 23 := rfl
  rw [hd]
  obtain ⟨f, hf1, hf2, hf3⟩ : ∃ f : Int, evE (T (k + 12)) (.ite (.ocmp .NotEq (.var 2) (.int 5)) (.int 5) (.int 2)) σ ν = .ok (.int f) ν ∧ d ≠ f ∧ (f = 1 ∨ f = 2 ∨ f = 3 ∨ f = 5) := by
    by_cases h : d = 5
    · refine ⟨2, ?_, by omega, by omega⟩
      simp only [E_ite, E_ocmp, hx.h2.ev, E_int, bind_ok', cmpT_int, cmp_nei, h, decide_true, Bool.not_true, opt_some, tru_bl, Bool.false_eq_true, if_false]
    · refine ⟨5, ?_, h, by omega⟩
      simp only [E_ite, E_ocmp, hx.h2.ev, E_int, bind_ok', cmpT_int, cmp_nei, h, decide_false, Bool.not_false, opt_some, tru_bl, if_true]
  have hs : evE (T (k + 12)) (.mk 4 [(.mk 3 [(.int 1)]), (.mk 3 [(.int 0)]), (.ite (.ocmp .NotEq (.var 2) (.int 5)) (.int 5) (.int 2))]) σ ν = .ok (S' 1 0 f) ν :=
    m_surd (J := k + 9) (by simp only [E_mk, Es_cons, Es_nil, E_int, bind_ok']; exact mko k) (by simp only [E_mk, Es_cons, Es_nil, E_int, bind_ok']; exact mkz k) hf1 (vd0 hf3)
  obtain ⟨M, hM, hMal, he⟩ : ∃ M : List MV, M.length = 4 ∧ (∀ x ∈ M, Mal k x) ∧ evE (T (k + 12)) (.lst [(.tup [(.fn 44), (.tup [(.var 16), (.mk 4 [(.mk 3 [(.int 1)]), (.mk 3 [(.int 0)]), (.ite (.ocmp .NotEq (.var 2) (.int 5)) (.int 5) (.int 2))])])]), (.tup [(.fn 44), (.tup [(.var 16), (.int 1)])]), (.tup [(.fn 34), (.tup [(.int 1), (.int 7)])]), (.tup [(.fn 34), (.tup [(.oneg (.int 1)), (.int 4)])])]) σ ν = .ok (.ref ν.length) (ν ++ [.lst M]) := by
    refine ⟨[.tup [.fn 44, .tup [S' a b d, S' 1 0 f]], .tup [.fn 44, .tup [S' a b d, .int 1]], .tup [.fn 34, .tup [.int 1, .int 7]], .tup [.fn 34, .tup [.int (-1), .int 4]]], rfl, fun x hm => ?_, ?_⟩
    · simp only [List.mem_cons, List.not_mem_nil, or_false] at hm
      rcases hm with rfl | rfl | rfl | rfl
      · exact mal3 k hf2
      · exact mal4 k
      · exact mal5 k (.inl (by decide))
      · exact mal5 k (.inr ⟨by decide, by decide⟩)
    · rw [E_lst]
      simp only [E_tup, Es_cons, Es_nil, E_fn, hs, hx.h16.ev, E_int, E_oneg, bind_ok', negT_int, newT2, newL4]
  have hlen : (L ++ M).length = 8 := by rw [List.length_append, hn, hM]
  simp only [B_cons, S_asg, app_e h11 hq he (by omega), stm_ok', A_var, calm_ok', go_next]
  exact t23 k hr (hx.set (.inl (by decide))) (h7.ne (by decide)) (Has.self (by rw [hx.len]; decide)) get_new hlen fun x hm => (List.mem_append.mp hm).elim (hok x) (hMal x)
theorem t21 (k : Nat) (hr : r ∈ rs) (hx : Cx σ a b c e d) (h7 : Has σ 7 (.int (r : Int))) : Tail k 21 σ ν := by
  show (evB (T (k + 12)) (d45.body.drop 21) σ ν).To _
  have hd : d45.body.drop 21 = .asg (.var 11) (.lst [(.tup [(.fn 42), (.tup [(.int 1), (.mk 3 [(.int 0)]), (.int 2)])]), (.tup [(.fn 42), (.tup [(.mk 3 [(.int 1)]), (.mk 3 [(.int 1)]), (.int 1)])]), (.tup [(.fn 42), (.tup [(.mk 3 [(.int 1)]), (.mk 3 [(.int 1)]), (.int 7)])]), (.tup [(.fn 42), (.tup [(.mk 3 [(.int 1)]), (.mk 3 [(.int 0)]), (.bl true)])])]) :: d45.body.drop 22 := rfl
  rw [hd]
  simp only [B_cons, S_asg, E_lst, E_tup, Es_cons, Es_nil, E_fn, E_int, E_bl, E_mk, mkz k, mko k, bind_ok', newT2, newT3, newL4, stm_ok', A_var, calm_ok', go_next]
  refine t22 k hr (hx.set (.inl (by decide))) (h7.ne (by decide)) (Has.self (by rw [hx.len]; decide)) get_new (by simp) fun x hm => ?_
  simp only [List.mem_cons, List.not_mem_nil, or_false] at hm
  rcases hm with rfl | rfl | rfl | rfl
  · exact mal1 k
  · exact mal2 k (.inl ⟨rfl, by decide⟩)
  · exact mal2 k (.inr (.inl rfl))
  · exact mal2 k (.inr (.inr rfl))
abbrev loopB : List S := [.ite (.ocmp .NotEq (.call 35 [(.var 10), (.var 7)]) (.var 9)) [.ret (.bl false)] [], .asg (.var 9) (.obin .Mult (.var 9) (.idx (.var 8) (.obin .Add (.var 10) (.int 1))))]
theorem t19 (k : Nat) (hr : r ∈ rs) (hx : Cx σ a b c e d) (h7 : Has σ 7 (.int (r : Int))) (h8 : Has σ 8 (.ref m)) (hl : lstAt ν m = some (lowL r)) (h19 : Has σ 19 (SP (1, 0) (rt r))) : Tail k 19 σ ν := by
  show (evB (T (k + 12)) (d45.body.drop 19) σ ν).To _
  have hd : d45.body.drop 19 = .asg (.var 9) (.var 19) :: .for (.var 10) (.rng [(.var 7)]) loopB :: d45.body.drop 21 := rfl
  rw [hd]
  have hr2 := r_le hr
  simp only [B_cons, S_asg, h19.ev, stm_ok', A_var, calm_ok', go_next]
  refine RS.To.go ?_
  have h7' : Has (σ.set 9 (some (SP (1, 0) (rt r)))) 7 (.int (r : Int)) := h7.ne (by decide)
  have hrn : rngM ν [.int (r : Int)] = .ok (.rng 0 r 1) ν := by
    rw [rng1 (by omega), Int.toNat_natCast]
  simp only [S_for, E_rng, Es_cons, Es_nil, h7'.ev, bind_ok', hrn, stm_ok', itM]
  refine forL_to (xs := rngL 0 r 1) (I := fun i σ ν' => Cx σ a b c e d ∧ Has σ 7 (.int (r : Int)) ∧ Has σ 8 (.ref m) ∧ Has σ 9 (SP (PR r i) (rt r)) ∧ ν' = ν) (fun i σ ν hI => nth_items rfl i) (fun i x σ ν' hx' hI => ?_) (fun σ ν' hI => ?_) _ 0 _ _ (Nat.zero_le _) (by rw [Tn, rngL_len]; omega) ⟨hx.set (.inl (by decide)), h7', h8.ne (by decide), Has.self (by rw [hx.len]; decide), rfl⟩
  · obtain ⟨cx, g7, g8, g9, rfl⟩ := hI
    have hi := (List.getElem?_eq_some_iff.mp hx').1
    rw [rngL_len] at hi
    have ex : x = .int (i : Int) := by
      unfold rngL at hx'
      rw [List.getElem?_map, List.getElem?_range hi] at hx'
      simp only [Option.map_some, Option.some.injEq] at hx'
      have e3 : (0 : Int) + (i : Int) * 1 = (i : Int) := by omega
      rw [← hx', e3]
    subst ex
    refine ⟨_, by simp only [T_var]; rfl, ?_⟩
    generalize hσ : σ.set 10 (some (.int (i : Int))) = σ1
    have cx1 : Cx σ1 a b c e d := by rw [← hσ]; exact cx.set (.inl (by decide))
    have k7 : Has σ1 7 (.int (r : Int)) := by rw [← hσ]; exact g7.ne (by decide)
    have k8 : Has σ1 8 (.ref m) := by rw [← hσ]; exact g8.ne (by decide)
    have k9 : Has σ1 9 (SP (PR r i) (rt r)) := by rw [← hσ]; exact g9.ne (by decide)
    have k10 : Has σ1 10 (.int (i : Int)) := by rw [← hσ]; exact Has.self (by rw [cx.len]; decide)
    have hp := prod_ok (μ := ν') (k + 5) hr hi
    have hne : evE (T (k + 12)) (.ocmp .NotEq (.call 35 [(.var 10), (.var 7)]) (.var 9)) σ1 ν' = .ok (.bl false) ν' :=
      f_ne0 (j := k + 10) (by simp only [E_call, Es_cons, Es_nil, k10.ev, k7.ev, bind_ok']; exact hp) (k9.ev _ _) rfl rfl
    have hidx : evE (T (k + 12)) (.idx (.var 8) (.obin .Add (.var 10) (.int 1))) σ1 ν' = .ok (SP (tn r (i + 1)) (rt r)) ν' := by
      have := idx_low (n := i + 1) hl (by omega)
      have e1 : ((i + 1 : Nat) : Int) = (i : Int) + 1 := by omega
      rw [e1] at this
      simp only [E_idx, k8.ev, E_obin, k10.ev, E_int, bind_ok', binT_int, bin_add, this, opt_some]
    have hmul : evE (T (k + 12)) (.obin .Mult (.var 9) (.idx (.var 8) (.obin .Add (.var 10) (.int 1)))) σ1 ν' = .ok (SP (PR r (i + 1)) (rt r)) ν' :=
      SP_mul (j := k + 8) hr (k9.ev _ _) hidx (fit_P' hr (by omega)) (fit_t hr (by omega))
    simp only [B_cons, B_nil, S_ite, hne, stm_ok', tru_bl, Bool.false_eq_true, if_false, go_next, S_asg, hmul, A_var, calm_ok', STo_ok, turnT_next]
    exact ⟨cx1.set (.inl (by decide)), k7.ne (by decide), k8.ne (by decide), Has.self (by rw [cx1.len]; decide), by trivial⟩
  · obtain ⟨cx, g7, g8, g9, rfl⟩ := hI
    exact t21 k hr cx g7
end
end Mch.k03

/-! ## k03: the law: the turn numbers -/
namespace Mch.k03
open PySem Mch
section
variable {σ : Env} {ν μ : Mem} {a b c e : Rat} {d : Int} {r m : Nat}
theorem any_no {elt : E} {es : List E} {lo : Int} {n k : Nat} (hL : σ.length = 24) (he : evE (T (k + 12)) (.rng es) σ ν = .ok (.rng lo n 1) ν) (hn : n < 1000)
    (h : ∀ i < n, evE (T (k + 12)) elt (σ.set 10 (some (.int (lo + (i : Int))))) ν = .ok (.bl false) ν) : ∃ L, evE (T (k + 12)) (.bi .any [.comp elt (.var 10) (.rng es) (.bl true) [10]]) σ ν = .ok (.bl false) (ν ++ [.lst L]) := by
  have hc : evE (T (k + 12)) (.comp elt (.var 10) (.rng es) (.bl true) [10]) σ ν = .ok (.ref ν.length) (ν ++ [.lst ((rngL lo n 1).map fun x => .bl ((fun _ => false) x))]) := by
    rw [← fm_some]
    refine comp_pure (J := .rng lo n 1) (xs := rngL lo n 1) _ (by rw [Tn, rngL_len]; omega) (by rw [sl, rngL_len]; omega) he rfl fun x hm => ?_
    unfold rngL at hm
    obtain ⟨i, hi, rfl⟩ := List.mem_map.mp hm
    rw [List.mem_range] at hi
    refine ⟨_, by simp only [T_var]; rfl, ?_⟩
    have e1 : (lo + (i : Int) * 1) = lo + (i : Int) := by omega
    have hw : (wipeM σ [10]).set 10 (some (.int (lo + (i : Int) * 1))) = σ.set 10 (some (.int (lo + (i : Int)))) := by
      simp only [wipe_cons, wipe_nil, List.set_set, e1]
    rw [hw]
    unfold turnE
    simp only [E_bl, bind_ok', tru_bl, if_true, h i hi]
  refine ⟨(rngL lo n 1).map fun x => .bl ((fun _ => false) x), ?_⟩
  rw [E_bi]
  simp only [Es_cons, Es_nil, hc, bind_ok', any_new (p := fun _ => false)]
  rw [List.any_eq_false.mpr (fun x _ => by simp)]
structure Cy (σ : Env) (ν : Mem) (r m : Nat) : Prop where
  h7 : Has σ 7 (.int (r : Int))
  h8 : Has σ 8 (.ref m)
  lo : lstAt ν m = some (lowL r)
  h19 : Has σ 19 (SP (1, 0) (rt r))
theorem Cy.set (h : Cy σ ν r m) {j : Nat} {o : Option MV} (hj : j ≠ 7 ∧ j ≠ 8 ∧ j ≠ 19) : Cy (σ.set j o) ν r m := ⟨h.h7.ne hj.1, h.h8.ne hj.2.1, h.lo, h.h19.ne hj.2.2⟩
theorem Cy.app (h : Cy σ ν r m) (L : Mem) : Cy σ (ν ++ L) r m := ⟨h.h7, h.h8, by
  have := h.lo
  exact (Grow.app [] ν L).lst this (by simp), h.h19⟩
theorem Cy.at (h : Cy σ ν r m) {A : E} {n k : Nat} (hA : evE (T k) A σ ν = .ok (.int (n : Int)) ν) (hn : n ≤ 2 * r) : evE (T k) (.idx (.var 8) A) σ ν = .ok (SP (tn r n) (rt r)) ν := by
  simp only [E_idx, h.h8.ev, hA, bind_ok', idx_low h.lo hn, opt_some]
theorem tn_neg (hr : r ∈ rs) {n : Nat} (hn : n < r + 1) : (tn r (r + n)).1 = -(tn r n).1 ∧ (tn r (r + n)).2 = -(tn r n).2 := by
  rw [F5 r hr n hn]
  exact ⟨rfl, rfl⟩
theorem t18 (k : Nat) (hr : r ∈ rs) (hx : Cx σ a b c e d) (hy : Cy σ ν r m) : Tail k 18 σ ν := by
  show (evB (T (k + 12)) (d45.body.drop 18) σ ν).To _
  have hd : d45.body.drop 18 = .ite (.or (.bi .any [(.comp (.ocmp .NotEq (.omth "sign" (.idx (.var 8) (.var 10)) []) (.int 1)) (.var 10) (.rng [(.int 1), (.var 7)]) (.bl true) [10])]) (.bi .any [(.comp (.ocmp .NotEq (.idx (.var 8) (.obin .Add (.var 7) (.var 10))) (.oneg (.idx (.var 8) (.var 10)))) (.var 10) (.rng [(.obin .Add (.var 7) (.int 1))]) (.bl true) [10])])) [.ret (.bl false)] [] :: d45.body.drop 19 := rfl
  rw [hd]
  have hr2 := r_le hr
  obtain ⟨L1, e1⟩ : ∃ L, evE (T (k + 12)) (.bi .any [(.comp (.ocmp .NotEq (.omth "sign" (.idx (.var 8) (.var 10)) []) (.int 1)) (.var 10) (.rng [(.int 1), (.var 7)]) (.bl true) [10])]) σ ν = .ok (.bl false) (ν ++ [.lst L]) := by
    refine any_no (lo := 1) (n := r - 1) hx.len ?_ (by omega) fun i hi => ?_
    · simp only [E_rng, Es_cons, Es_nil, E_int, hy.h7.ev, bind_ok']
      rw [rng2 (by omega)]
      congr 2
      omega
    · have hy' : Cy (σ.set 10 (some (.int (1 + (i : Int))))) ν r m := hy.set (by decide)
      have k10 : Has (σ.set 10 (some (.int (1 + (i : Int))))) 10 (.int (1 + (i : Int))) := Has.self (by rw [hx.len]; decide)
      have ft := fit_t hr (n := i + 1) (by omega)
      have hi1 := hy'.at (A := .var 10) (n := i + 1) (k := k + 12) (by rw [k10.ev]; congr 2; omega) (by omega)
      have hs := f_sign (j := k + 8) hi1 ft.a ft.b (by decide) ft.v
      simp only [E_ocmp, hs, bind_ok', E_int, cmpT_int, cmp_nei, F4 r hr (i + 1) (by omega) (by omega), decide_true, Bool.not_true, opt_some]
  have hy1 := hy.app [.lst L1]
  obtain ⟨L2, e2⟩ : ∃ L, evE (T (k + 12)) (.bi .any [(.comp (.ocmp .NotEq (.idx (.var 8) (.obin .Add (.var 7) (.var 10))) (.oneg (.idx (.var 8) (.var 10)))) (.var 10) (.rng [(.obin .Add (.var 7) (.int 1))]) (.bl true) [10])]) σ (ν ++ [.lst L1]) = .ok (.bl false) ((ν ++ [.lst L1]) ++ [.lst L]) := by
    refine any_no (lo := 0) (n := r + 1) hx.len ?_ (by omega) fun i hi => ?_
    · simp only [E_rng, Es_cons, Es_nil, E_obin, E_int, hy1.h7.ev, bind_ok', binT_int, bin_add]
      rw [rng1 (by omega)]
      congr 2
    · have hy' : Cy (σ.set 10 (some (.int (0 + (i : Int))))) (ν ++ [.lst L1]) r m := hy1.set (by decide)
      have k10 : Has (σ.set 10 (some (.int (0 + (i : Int))))) 10 (.int (0 + (i : Int))) := Has.self (by rw [hx.len]; decide)
      have ft := fit_t hr (n := i) (by omega)
      have hi1 := hy'.at (A := .var 10) (n := i) (k := k + 12) (by rw [k10.ev]; congr 2; omega) (by omega)
      have hi2 := hy'.at (A := .obin .Add (.var 7) (.var 10)) (n := r + i) (k := k + 12) (by simp only [E_obin, hy'.h7.ev, k10.ev, bind_ok', binT_int, bin_add]; congr 2; omega) (by omega)
      obtain ⟨q1, q2⟩ := tn_neg hr (n := i) (by omega)
      exact f_ne0 (j := k + 10) hi2 (f_neg (j := k + 8) hi1 ft.a ft.b (by decide) ft.v) q1 q2
  simp only [B_cons, S_ite, E_or, e1, e2, bind_ok', tru_bl, Bool.false_eq_true, if_false, stm_ok', B_nil, go_next]
  exact t19 k hr hx hy.h7 hy.h8 ((hy1.app [.lst L2]).lo) hy.h19
theorem t17 (k : Nat) (hr : r ∈ rs) (hx : Cx σ a b c e d) (hy : Cy σ ν r m) : Tail k 17 σ ν := by
  show (evB (T (k + 12)) (d45.body.drop 17) σ ν).To _
  have hd : d45.body.drop 17 = .ite (.or (.bi .any [(.comp (.ocmp .NotEq (.idx (.var 8) (.var 10)) (.idx (.var 8) (.obin .Sub (.var 7) (.var 10)))) (.var 10) (.rng [(.obin .Add (.var 7) (.int 1))]) (.bl true) [10])]) (.bi .any [(.comp (.ocmp .NotEq (.obin .Mult (.idx (.var 8) (.obin .Add (.var 10) (.int 1))) (.idx (.var 8) (.obin .Sub (.var 10) (.int 1)))) (.obin .Sub (.obin .Mult (.idx (.var 8) (.var 10)) (.idx (.var 8) (.var 10))) (.var 19))) (.var 10) (.rng [(.int 1), (.obin .Mult (.int 2) (.var 7))]) (.bl true) [10])])) [.ret (.bl false)] [] :: d45.body.drop 18 := rfl
  rw [hd]
  have hr2 := r_le hr
  obtain ⟨L1, e1⟩ : ∃ L, evE (T (k + 12)) (.bi .any [(.comp (.ocmp .NotEq (.idx (.var 8) (.var 10)) (.idx (.var 8) (.obin .Sub (.var 7) (.var 10)))) (.var 10) (.rng [(.obin .Add (.var 7) (.int 1))]) (.bl true) [10])]) σ ν = .ok (.bl false) (ν ++ [.lst L]) := by
    refine any_no (lo := 0) (n := r + 1) hx.len ?_ (by omega) fun i hi => ?_
    · simp only [E_rng, Es_cons, Es_nil, E_obin, E_int, hy.h7.ev, bind_ok', binT_int, bin_add]
      rw [rng1 (by omega)]
      congr 2
    · have hy' : Cy (σ.set 10 (some (.int (0 + (i : Int))))) ν r m := hy.set (by decide)
      have k10 : Has (σ.set 10 (some (.int (0 + (i : Int))))) 10 (.int (0 + (i : Int))) := Has.self (by rw [hx.len]; decide)
      have hi1 := hy'.at (A := .var 10) (n := i) (k := k + 12) (by rw [k10.ev]; congr 2; omega) (by omega)
      have hi2 := hy'.at (A := .obin .Sub (.var 7) (.var 10)) (n := r - i) (k := k + 12) (by simp only [E_obin, hy'.h7.ev, k10.ev, bind_ok', binT_int, bin_sub]; congr 2; omega) (by omega)
      have q := F2 r hr i (by omega)
      exact f_ne0 (j := k + 10) hi1 hi2 (by rw [q]) (by rw [q])
  have hy1 := hy.app [.lst L1]
  obtain ⟨L2, e2⟩ : ∃ L, evE (T (k + 12)) (.bi .any [(.comp (.ocmp .NotEq (.obin .Mult (.idx (.var 8) (.obin .Add (.var 10) (.int 1))) (.idx (.var 8) (.obin .Sub (.var 10) (.int 1)))) (.obin .Sub (.obin .Mult (.idx (.var 8) (.var 10)) (.idx (.var 8) (.var 10))) (.var 19))) (.var 10) (.rng [(.int 1), (.obin .Mult (.int 2) (.var 7))]) (.bl true) [10])]) σ (ν ++ [.lst L1]) = .ok (.bl false) ((ν ++ [.lst L1]) ++ [.lst L]) := by
    refine any_no (lo := 1) (n := 2 * r - 1) hx.len ?_ (by omega) fun i hi => ?_
    · have m1 : mulOk 2 (r : Int) = true := mulOk_l (by decide)
      simp only [E_rng, Es_cons, Es_nil, E_obin, E_int, hy1.h7.ev, bind_ok', binT_int, bin_mul m1]
      rw [rng2 (by omega)]
      congr 2
      omega
    · have hy' : Cy (σ.set 10 (some (.int (1 + (i : Int))))) (ν ++ [.lst L1]) r m := hy1.set (by decide)
      have k10 : Has (σ.set 10 (some (.int (1 + (i : Int))))) 10 (.int (1 + (i : Int))) := Has.self (by rw [hx.len]; decide)
      have f0 := fit_t hr (n := i) (by omega)
      have f1 := fit_t hr (n := i + 1) (by omega)
      have f2 := fit_t hr (n := i + 2) (by omega)
      have f19 : Bd 30 (1 : Rat) ∧ Bd 30 (0 : Rat) := ⟨small_bd (by decide +kernel), small_bd (by decide +kernel)⟩
      have h0 := hy'.at (A := .obin .Sub (.var 10) (.int 1)) (n := i) (k := k + 12) (by simp only [E_obin, E_int, k10.ev, bind_ok', binT_int, bin_sub]; congr 2; omega) (by omega)
      have h1 := hy'.at (A := .var 10) (n := i + 1) (k := k + 12) (by rw [k10.ev]; congr 2; omega) (by omega)
      have h2 := hy'.at (A := .obin .Add (.var 10) (.int 1)) (n := i + 2) (k := k + 12) (by simp only [E_obin, E_int, k10.ev, bind_ok', binT_int, bin_add]; congr 2; omega) (by omega)
      have q := F3 r hr (i + 1) (by omega) (by omega)
      obtain ⟨b1, b2, bv⟩ := mulP_bd f1 f1
      have v0 : Vd (rt r) 0 := vd0 (rt_ok hr).1
      exact f_ne0 (j := k + 10) (SP_mul (j := k + 8) hr h2 h0 f2 f0) (f_sub (j := k + 8) (k := 130) (l := 30) (SP_mul (j := k + 8) hr h1 h1 f1 f1) (hy'.h19.ev _ _) b1 b2 f19.1 f19.2 (by decide) bv v0) (congrArg Prod.fst q) (congrArg Prod.snd q)
  simp only [B_cons, S_ite, E_or, e1, e2, bind_ok', tru_bl, Bool.false_eq_true, if_false, stm_ok', B_nil, go_next]
  exact t18 k hr hx (hy1.app [.lst L2])
theorem t16 (k : Nat) (hr : r ∈ rs) (hx : Cx σ a b c e d) (hy : Cy σ ν r m) (h20 : Has σ 20 (SP (0, 0) (rt r))) : Tail k 16 σ ν := by
  show (evB (T (k + 12)) (d45.body.drop 16) σ ν).To _
  have hd : d45.body.drop 16 = .ite (.or (.ocmp .NotEq (.call 33 [(.var 7)]) (.idx (.lst [(.int 1), (.int 2), (.int 5), (.int 3)]) (.obin .Sub (.var 7) (.int 3)))) (.or (.ocmp .NotEq (.idx (.var 8) (.int 0)) (.var 20)) (.or (.ocmp .NotEq (.idx (.var 8) (.int 1)) (.var 19)) (.or (.ocmp .NotEq (.idx (.var 8) (.var 7)) (.var 20)) (.or (.ocmp .NotEq (.idx (.var 8) (.obin .Mult (.int 2) (.var 7))) (.var 20)) (.ocmp .NotEq (.idx (.var 8) (.obin .Sub (.var 7) (.int 1))) (.var 19))))))) [.ret (.bl false)] [] :: d45.body.drop 17 := rfl
  rw [hd]
  have hr2 := r_le hr
  have hro := root_ok (μ := ν) (k + 8) hr
  have hi : idxM (ν ++ [.lst [.int 1, .int 2, .int 5, .int 3]]) (.ref ν.length) (.int ((r : Int) - 3)) = some (.int (rt r)) := by
    have hl : lstAt (ν ++ [.lst [.int 1, .int 2, .int 5, .int 3]]) ν.length = some [.int 1, .int 2, .int 5, .int 3] := lstAt_new
    have hr' := hr
    simp only [rs, List.mem_cons, List.not_mem_nil, or_false] at hr'
    rcases hr' with rfl | rfl | rfl | rfl <;> (simp only [idxM, hl, Option.bind_some]; rfl)
  have e1 : evE (T (k + 12)) (.ocmp .NotEq (.call 33 [(.var 7)]) (.idx (.lst [(.int 1), (.int 2), (.int 5), (.int 3)]) (.obin .Sub (.var 7) (.int 3)))) σ ν = .ok (.bl false) (ν ++ [.lst [.int 1, .int 2, .int 5, .int 3]]) := by
    simp only [E_ocmp, E_call, Es_cons, Es_nil, hy.h7.ev, bind_ok', hro, E_idx, E_lst, E_int, newL4, E_obin, binT_int, bin_sub, hi, opt_some, cmpT_int, cmp_nei, decide_true, Bool.not_true]
  have hy1 := hy.app [.lst [.int 1, .int 2, .int 5, .int 3]]
  generalize ν ++ [.lst [.int 1, .int 2, .int 5, .int 3]] = ν1 at e1 hy1
  obtain ⟨q0, q1, q2, q3, q4⟩ := F1 r hr
  have m1 : mulOk 2 (r : Int) = true := mulOk_l (by decide)
  have e2 : evE (T (k + 12)) (.ocmp .NotEq (.idx (.var 8) (.int 0)) (.var 20)) σ ν1 = .ok (.bl false) ν1 :=
    f_ne0 (j := k + 10) (hy1.at (n := 0) (k := k + 12) E_int (by omega)) (h20.ev _ _) (by rw [q0]) (by rw [q0])
  have e3 : evE (T (k + 12)) (.ocmp .NotEq (.idx (.var 8) (.int 1)) (.var 19)) σ ν1 = .ok (.bl false) ν1 :=
    f_ne0 (j := k + 10) (hy1.at (n := 1) (k := k + 12) E_int (by omega)) (hy1.h19.ev _ _) (by rw [q1]) (by rw [q1])
  have e4 : evE (T (k + 12)) (.ocmp .NotEq (.idx (.var 8) (.var 7)) (.var 20)) σ ν1 = .ok (.bl false) ν1 :=
    f_ne0 (j := k + 10) (hy1.at (n := r) (k := k + 12) (hy1.h7.ev _ _) (by omega)) (h20.ev _ _) (by rw [q2]) (by rw [q2])
  have e5 : evE (T (k + 12)) (.ocmp .NotEq (.idx (.var 8) (.obin .Mult (.int 2) (.var 7))) (.var 20)) σ ν1 = .ok (.bl false) ν1 :=
    f_ne0 (j := k + 10) (hy1.at (n := 2 * r) (k := k + 12) (by simp only [E_obin, E_int, hy1.h7.ev, bind_ok', binT_int, bin_mul m1]; congr 2) (by omega)) (h20.ev _ _) (by rw [q3]) (by rw [q3])
  have e6 : evE (T (k + 12)) (.ocmp .NotEq (.idx (.var 8) (.obin .Sub (.var 7) (.int 1))) (.var 19)) σ ν1 = .ok (.bl false) ν1 :=
    f_ne0 (j := k + 10) (hy1.at (n := r - 1) (k := k + 12) (by simp only [E_obin, E_int, hy1.h7.ev, bind_ok', binT_int, bin_sub]; congr 2; omega) (by omega)) (hy1.h19.ev _ _) (by rw [q4]) (by rw [q4])
  simp only [B_cons, S_ite, E_or, e1, e2, e3, e4, e5, e6, bind_ok', tru_bl, Bool.false_eq_true, if_false, stm_ok', B_nil, go_next]
  exact t17 k hr hx hy1
theorem t15 (k : Nat) (hr : r ∈ rs) (hx : Cx σ a b c e d) (h7 : Has σ 7 (.int (r : Int))) (h8 : Has σ 8 (.ref m)) (hl : lstAt ν m = some (lowL r)) : Tail k 15 σ ν := by
  show (evB (T (k + 12)) (d45.body.drop 15) σ ν).To _
  have hd : d45.body.drop 15 = .asg (.tup [(.var 19), (.var 20)]) (.tup [(.call 32 [(.int 1), (.call 33 [(.var 7)])]), (.call 32 [(.int 0), (.call 33 [(.var 7)])])]) :: d45.body.drop 16 := rfl
  rw [hd]
  have hro := root_ok (μ := ν) (k + 8) hr
  have hw0 : (T (k + 12)).call 32 [.int 0, .int (rt r)] ν = .ok (SP (0, 0) (rt r)) ν := whole (k + 8) (a := 0) (rt_ok hr).1 (by decide)
  have hw1 : (T (k + 12)).call 32 [.int 1, .int (rt r)] ν = .ok (SP (1, 0) (rt r)) ν := whole (k + 8) (a := 1) (rt_ok hr).1 (by decide)
  simp only [B_cons, S_asg, E_tup, Es_cons, Es_nil, E_call, E_int, h7.ev, bind_ok', hro, hw0, hw1, newT2, stm_ok', A_tup, Ag_cons, Ag_nil, A_var, List.length_cons, List.length_nil, if_true, calm_ok', go_next]
  exact t16 k hr ((hx.set (.inr (by decide))).set (.inr (by decide))) ⟨(h7.ne (by decide)).ne (by decide), (h8.ne (by decide)).ne (by decide), hl, (Has.self (by rw [hx.len]; decide)).ne (by decide)⟩ (Has.self (by rw [List.length_set, hx.len]; decide))
theorem t14 (k : Nat) (hr : r ∈ rs) (hx : Cx σ a b c e d) (h7 : Has σ 7 (.int (r : Int))) : Tail k 14 σ ν := by
  show (evB (T (k + 12)) (d45.body.drop 14) σ ν).To _
  have hd : d45.body.drop 14 = .asg (.var 8) (.comp (.call 34 [(.var 10), (.var 7)]) (.var 10) (.rng [(.obin .Add (.obin .Mult (.int 2) (.var 7)) (.int 1))]) (.bl true) [10]) :: d45.body.drop 15 := rfl
  rw [hd]
  have hr2 := r_le hr
  have m1 : mulOk 2 (r : Int) = true := mulOk_l (by decide)
  have hc : evE (T (k + 12)) (.comp (.call 34 [(.var 10), (.var 7)]) (.var 10) (.rng [(.obin .Add (.obin .Mult (.int 2) (.var 7)) (.int 1))]) (.bl true) [10]) σ ν = .ok (.ref ν.length) (ν ++ [.lst (lowL r)]) := by
    have hfm : lowL r = (rngL 0 (2 * r + 1) 1).filterMap (fun x => match x with | .int i => some (SP (tn r i.toNat) (rt r)) | _ => none) := by
      unfold lowL rngL
      rw [List.filterMap_map, ← fm_some]
      congr 1
      funext i
      show some _ = some _
      congr 3 <;> omega
    rw [hfm]
    refine comp_pure (J := .rng 0 (2 * r + 1) 1) (xs := rngL 0 (2 * r + 1) 1) _ (by rw [Tn, rngL_len]; omega) (by rw [sl, rngL_len]; omega) ?_ rfl fun x hm => ?_
    · simp only [E_rng, Es_cons, Es_nil, E_obin, E_int, h7.ev, bind_ok', binT_int, bin_mul m1, bin_add]
      rw [rng1 (by omega)]
      congr 2
    · unfold rngL at hm
      obtain ⟨i, hi, rfl⟩ := List.mem_map.mp hm
      rw [List.mem_range] at hi
      refine ⟨_, by simp only [T_var]; rfl, ?_⟩
      have e1 : ((0 : Int) + (i : Int) * 1) = (i : Int) := by omega
      rw [e1]
      simp only [wipe_cons, wipe_nil, List.set_set]
      have k7 : Has (σ.set 10 (some (.int (i : Int)))) 7 (.int (r : Int)) := h7.ne (by decide)
      have k10 : Has (σ.set 10 (some (.int (i : Int)))) 10 (.int (i : Int)) := Has.self (by rw [hx.len]; decide)
      have ht := turn_ok (μ := ν) (k + 6) hr (n := i) (by omega)
      unfold turnE
      simp only [E_bl, bind_ok', tru_bl, if_true, E_call, Es_cons, Es_nil, k10.ev, k7.ev, ht, Int.toNat_natCast]
  simp only [B_cons, S_asg, hc, stm_ok', A_var, calm_ok', go_next]
  exact t15 k hr (hx.set (.inl (by decide))) (h7.ne (by decide)) (Has.self (by rw [hx.len]; decide)) lstAt_new
theorem t13 (k : Nat) {i : Nat} (hx : Cx σ a b c e d) (h1 : Has σ 1 (.ref i)) (hS : St i ν) : Tail k 13 σ ν := by
  show (evB (T (k + 12)) (d45.body.drop 13) σ ν).To _
  have hd : d45.body.drop 13 = .asg (.var 7) (.obin .Add (.int 3) (.call 37 [(.var 1), (.int 4)])) :: d45.body.drop 14 := rfl
  rw [hd]
  obtain ⟨r, ν1, e1, x, rfl, x1, x2, s1, g1⟩ := (take_to (d := k + 11) h1 hS (show (0 : Int) < 4 ∧ (4 : Int) < 1073741824 by decide)).eq
  have e1 : evE (T (k + 12)) (.call 37 [.var 1, .int 4]) σ ν = .ok (.int x) ν1 := e1
  obtain ⟨n, hn, hn2⟩ : ∃ n : Nat, (3 : Int) + x = (n : Int) ∧ n ∈ rs := by
    have : x = 0 ∨ x = 1 ∨ x = 2 ∨ x = 3 := by omega
    rcases this with rfl | rfl | rfl | rfl
    · exact ⟨3, rfl, by decide⟩
    · exact ⟨4, rfl, by decide⟩
    · exact ⟨5, rfl, by decide⟩
    · exact ⟨6, rfl, by decide⟩
  simp only [B_cons, S_asg, E_obin, E_int, e1, bind_ok', binT_int, bin_add, hn, stm_ok', A_var, calm_ok', go_next]
  exact t14 k hn2 (hx.set (.inl (by decide))) (Has.self (by rw [hx.len]; decide))
end
end Mch.k03

/-! ## k03: the law: two numbers with a root -/
namespace Mch.k03
open PySem Mch
structure Bx (a b c e : Rat) (d : Int) : Prop where
  v : Vd d b
  w : Vd d e
  a : Bd 30 a
  b : Bd 30 b
  c : Bd 30 c
  e : Bd 30 e
theorem Vd.bd {d : Int} {b : Rat} (v : Vd d b) : Bd 30 (d : Rat) := by
  rcases v.1 with rfl | rfl | rfl | rfl <;> exact small_bd (by decide +kernel)
section
variable {σ : Env} {ν μ : Mem} {a b c e : Rat} {d : Int} {i : Nat}
theorem add_str {a b : Str} (h : a.length + b.length ≤ sizeLine) : binM μ .Add (.str a) (.str b) = .ok (.str (a ++ b)) μ := if_pos h
theorem ne_str {x : Str} (h : PyData.strOk x = true) : cmpM μ .NotEq (.str x) (.str x) = some false := by
  have : toD μ 40 (.str x) = some (.str x) := if_pos h
  simp only [cmpM, eq_self this]
  rfl
theorem t12 (k : Nat) (hx : Cx σ a b c e d) (hb : Bx a b c e d) (h1 : Has σ 1 (.ref i)) (hS : St i ν) : Tail k 12 σ ν := by
  show (evB (T (k + 12)) (d45.body.drop 12) σ ν).To _
  have hd : d45.body.drop 12 = .ite (.or (.not (.call 38 [(.ocmp .Eq (.var 16) (.var 12)), (.bl false)])) (.or (.not (.ocmp .Eq (.var 16) (.mk 4 [(.var 12), (.var 13), (.var 2)]))) (.ocmp .NotEq (.ostr (.var 16)) (.ite (.ocmp .Eq (.omth "sign" (.var 13) []) (.int 0)) (.ostr (.var 12)) (.obin .Add (.obin .Add (.obin .Add (.obin .Add (.ostr (.var 12)) (.ite (.ocmp .Gt (.omth "sign" (.var 13) []) (.int 0)) (.str "+") (.str ""))) (.ostr (.var 13))) (.str "r")) (.ostr (.var 2))))))) [.ret (.bl false)] [] :: d45.body.drop 13 := rfl
  rw [hd]
  have e1 : evE (T (k + 12)) (.ocmp .Eq (.var 16) (.var 12)) σ ν = .ok (.bl false) ν := by
    simp only [E_ocmp, hx.h16.ev, hx.h12.ev, bind_ok']
    rw [cmpT_obj rfl (by rw [TP]; exact me4_eq') (by rw [TP]; rfl) (seq_bad (k + 11) ty_surdR)]
    rfl
  have e2 : (T (k + 12)).call 38 [.bl false, .bl false] ν = .ok (.bl true) ν := law_says (k + 11)
  have e3 : evE (T (k + 12)) (.ocmp .Eq (.var 16) (.mk 4 [(.var 12), (.var 13), (.var 2)])) σ ν = .ok (.bl true) ν := by
    rw [f_eq (j := k + 10) (hx.h16.ev _ _) (m_surd (J := k + 9) (hx.h12.ev _ _) (hx.h13.ev _ _) (hx.h2.ev _ _) hb.v)]
    simp
  have ba : Bd 1900 a := hb.a.mono (by decide)
  have bb : Bd 1900 b := hb.b.mono (by decide)
  have hsx : evE (T (k + 12)) (.ostr (.var 16)) σ ν = .ok (.str (sTxt a b d)) ν := by
    simp only [E_ostr, hx.h16.ev, bind_ok']
    exact strT_obj (meT me4_str) (sstr (k + 10) ba bb hb.v)
  have hsa : evE (T (k + 12)) (.ostr (.var 12)) σ ν = .ok (.str (rTxt a)) ν := by
    simp only [E_ostr, hx.h12.ev, bind_ok']
    exact strR ba
  have hsb : evE (T (k + 12)) (.ostr (.var 13)) σ ν = .ok (.str (rTxt b)) ν := by
    simp only [E_ostr, hx.h13.ev, bind_ok']
    exact strR bb
  have hsd : evE (T (k + 12)) (.ostr (.var 2)) σ ν = .ok (.str (tx d)) ν := by
    have : biM ν .str [.int d] = .ok (.str (tx d)) ν := small_int (n := 0) (d_log hb.v)
    simp only [E_ostr, hx.h2.ev, bind_ok', strT_int, this]
  have hg : evE (T (k + 12)) (.omth "sign" (.var 13) []) σ ν = .ok (.int (sg b)) ν := e_sign (j := k + 11) (hx.h13.ev _ _)
  have n1 := rTxt_len ba
  have n2 := rTxt_len bb
  have n3 := plus_len b
  have n4 := tx_len (d_log hb.v)
  have e4 : evE (T (k + 12)) (.ite (.ocmp .Eq (.omth "sign" (.var 13) []) (.int 0)) (.ostr (.var 12)) (.obin .Add (.obin .Add (.obin .Add (.obin .Add (.ostr (.var 12)) (.ite (.ocmp .Gt (.omth "sign" (.var 13) []) (.int 0)) (.str "+") (.str ""))) (.ostr (.var 13))) (.str "r")) (.ostr (.var 2)))) σ ν = .ok (.str (sTxt a b d)) ν := by
    unfold sTxt
    by_cases q : sg b = 0
    · simp only [E_ite, E_ocmp, hg, E_int, bind_ok', cmpT_int, cmp_eqi, q, decide_true, opt_some, tru_bl, if_true, hsa]
    · have hp : evE (T (k + 12)) (.ite (.ocmp .Gt (.omth "sign" (.var 13) []) (.int 0)) (.str "+") (.str "")) σ ν = .ok (.str (plusT b)) ν := by
        simp only [E_ite, E_ocmp, hg, bind_ok', E_int, cmpT_int, cmp_gt, opt_some, tru_bl]
        unfold plusT
        by_cases z : 0 < sg b <;> simp only [z, decide_true, decide_false, if_true, Bool.false_eq_true, if_false, E_str]
      have p1 : binM ν .Add (.str (rTxt a)) (.str (plusT b)) = .ok (.str (rTxt a ++ plusT b)) ν := add_str (by rw [sl]; omega)
      have p2 : binM ν .Add (.str (rTxt a ++ plusT b)) (.str (rTxt b)) = .ok (.str ((rTxt a ++ plusT b) ++ rTxt b)) ν := add_str (by rw [app_len, sl]; omega)
      have p3 : binM ν .Add (.str ((rTxt a ++ plusT b) ++ rTxt b)) (.str "r") = .ok (.str (((rTxt a ++ plusT b) ++ rTxt b) ++ ("r" : Str))) ν := add_str (by rw [app_len, app_len, r_len, sl]; omega)
      have p4 : binM ν .Add (.str (((rTxt a ++ plusT b) ++ rTxt b) ++ ("r" : Str))) (.str (tx d)) = .ok (.str ((((rTxt a ++ plusT b) ++ rTxt b) ++ ("r" : Str)) ++ tx d)) ν := add_str (by rw [app_len, app_len, app_len, r_len, sl]; omega)
      rw [E_ite]
      simp only [E_ocmp, hg, E_int, bind_ok', cmpT_int, cmp_eqi, q, decide_false, opt_some, tru_bl, Bool.false_eq_true, if_false]
      simp only [E_obin, hp, hsa, hsb, hsd, E_str, bind_ok', binT_str, p1, p2, p3, p4]
  have e5 : evE (T (k + 12)) (.ocmp .NotEq (.ostr (.var 16)) (.ite (.ocmp .Eq (.omth "sign" (.var 13) []) (.int 0)) (.ostr (.var 12)) (.obin .Add (.obin .Add (.obin .Add (.obin .Add (.ostr (.var 12)) (.ite (.ocmp .Gt (.omth "sign" (.var 13) []) (.int 0)) (.str "+") (.str ""))) (.ostr (.var 13))) (.str "r")) (.ostr (.var 2))))) σ ν = .ok (.bl false) ν := by
    rw [E_ocmp, hsx, bind_ok', e4, bind_ok', cmpT_str, ne_str (sTxt_ok a b d)]
    rfl
  rw [B_cons, S_ite]
  simp only [E_or, E_not, E_call, Es_cons, Es_nil, e1, E_bl, bind_ok', e2, e3, e5, tru_bl, Bool.not_true, Bool.false_eq_true, if_false, stm_ok', B_nil, go_next]
  exact t13 k hx h1 hS
theorem t11 (k : Nat) (hx : Cx σ a b c e d) (hb : Bx a b c e d) (h1 : Has σ 1 (.ref i)) (hS : St i ν) (h6 : Has σ 6 (.int (sgS a b d))) : Tail k 11 σ ν := by
  show (evB (T (k + 12)) (d45.body.drop 11) σ ν).To _
  have hd : d45.body.drop 11 = .ite (.or (.not (.call 40 [(.omth "sign" (.var 16) []), (.var 6)])) (.or (.ocmp .NotEq (.obin .Add (.omth "sign" (.obin .Sub (.var 16) (.var 17)) []) (.omth "sign" (.obin .Sub (.var 17) (.var 16)) [])) (.int 0)) (.or (.ocmp .Lt (.omth "sign" (.obin .Mult (.var 16) (.var 16)) []) (.int 0)) (.not (.call 38 [(.ocmp .Eq (.var 16) (.var 17)), (.and (.ocmp .Eq (.var 12) (.var 14)) (.ocmp .Eq (.var 13) (.var 15)))]))))) [.ret (.bl false)] [] :: d45.body.drop 12 := rfl
  rw [hd]
  have g1 : evE (T (k + 12)) (.omth "sign" (.var 16) []) σ ν = .ok (.int (sgS a b d)) ν := f_sign (j := k + 8) (hx.h16.ev _ _) hb.a hb.b (by decide) hb.v
  have e1 : (T (k + 12)).call 40 [.int (sgS a b d), .int (sgS a b d)] ν = .ok (.bl true) ν := by
    rw [law_same_int (k + 10)]
    simp
  have g2 : evE (T (k + 12)) (.omth "sign" (.obin .Sub (.var 16) (.var 17)) []) σ ν = .ok (.int (sgS (a - c) (b - e) d)) ν :=
    f_sign (j := k + 8) (f_sub (j := k + 8) (hx.h16.ev _ _) (hx.h17.ev _ _) hb.a hb.b hb.c hb.e (by decide) hb.v hb.w) (hb.a.sub hb.c) (hb.b.sub hb.e) (by decide) (hb.v.sub hb.w)
  have g3 : evE (T (k + 12)) (.omth "sign" (.obin .Sub (.var 17) (.var 16)) []) σ ν = .ok (.int (sgS (c - a) (e - b) d)) ν :=
    f_sign (j := k + 8) (f_sub (j := k + 8) (hx.h17.ev _ _) (hx.h16.ev _ _) hb.c hb.e hb.a hb.b (by decide) hb.w hb.v) (hb.c.sub hb.a) (hb.e.sub hb.b) (by decide) (hb.w.sub hb.v)
  have q3 : sgS (a - c) (b - e) d + sgS (c - a) (e - b) d = 0 := by
    have z1 : c - a = -(a - c) := by grind
    have z2 : e - b = -(b - e) := by grind
    rw [z1, z2, sgS_neg]
    omega
  have bA : Bd 130 (a * a + b * b * (d : Rat)) := ((hb.a.mul hb.a).add ((hb.b.mul hb.b).times hb.v.lt)).mono (by decide)
  have bB : Bd 130 (a * b + b * a) := ((hb.a.mul hb.b).add (hb.b.mul hb.a)).mono (by decide)
  have g4 : evE (T (k + 12)) (.omth "sign" (.obin .Mult (.var 16) (.var 16)) []) σ ν = .ok (.int (sgS (a * a + b * b * (d : Rat)) (a * b + b * a) d)) ν :=
    f_sign (j := k + 8) (f_mul (j := k + 8) (hx.h16.ev _ _) (hx.h16.ev _ _) hb.a hb.b hb.a hb.b (by decide) hb.v hb.v) bA bB (by decide) (hb.v.mul hb.v _ _)
  have q4 : ¬ sgS (a * a + b * b * (d : Rat)) (a * b + b * a) d < 0 := by
    have := sgS_sq (a := a) hb.v
    omega
  have g5 : evE (T (k + 12)) (.ocmp .Eq (.var 16) (.var 17)) σ ν = .ok (.bl (decide (a = c ∧ b = e))) ν := by
    rw [f_eq (j := k + 10) (hx.h16.ev _ _) (hx.h17.ev _ _)]
    congr 2
    simp
  have g6 : evE (T (k + 12)) (.and (.ocmp .Eq (.var 12) (.var 14)) (.ocmp .Eq (.var 13) (.var 15))) σ ν = .ok (.bl (decide (a = c ∧ b = e))) ν := by
    have y1 : evE (T (k + 12)) (.ocmp .Eq (.var 12) (.var 14)) σ ν = .ok (.bl (decide (a = c))) ν := e_eq (j := k + 11) (hx.h12.ev _ _) (hx.h14.ev _ _)
    have y2 : evE (T (k + 12)) (.ocmp .Eq (.var 13) (.var 15)) σ ν = .ok (.bl (decide (b = e))) ν := e_eq (j := k + 11) (hx.h13.ev _ _) (hx.h15.ev _ _)
    rw [E_and, y1]
    by_cases z : a = c
    · simp only [z, decide_true, bind_ok', tru_bl, if_true, y2, true_and]
    · simp only [z, decide_false, bind_ok', tru_bl, Bool.false_eq_true, if_false, false_and]
  have e5 : (T (k + 12)).call 38 [.bl (decide (a = c ∧ b = e)), .bl (decide (a = c ∧ b = e))] ν = .ok (.bl true) ν := by
    rw [law_says (k + 11)]
    simp
  have f3 : evE (T (k + 12)) (.ocmp .NotEq (.obin .Add (.omth "sign" (.obin .Sub (.var 16) (.var 17)) []) (.omth "sign" (.obin .Sub (.var 17) (.var 16)) [])) (.int 0)) σ ν = .ok (.bl false) ν := by
    rw [E_ocmp, E_obin, g2, bind_ok', g3]
    simp only [bind_ok', binT_int, bin_add, q3, E_int, cmpT_int, cmp_nei, decide_true, Bool.not_true, opt_some]
  have f4 : evE (T (k + 12)) (.ocmp .Lt (.omth "sign" (.obin .Mult (.var 16) (.var 16)) []) (.int 0)) σ ν = .ok (.bl false) ν := by
    rw [E_ocmp, g4]
    simp only [bind_ok', E_int, cmpT_int, cmp_lt, q4, decide_false, opt_some]
  rw [B_cons, S_ite, E_or, E_not]
  simp only [E_call, Es_cons, Es_nil, g1, h6.ev, bind_ok', e1, tru_bl, Bool.not_true, Bool.false_eq_true, if_false]
  rw [E_or, f3]
  simp only [bind_ok', tru_bl, Bool.false_eq_true, if_false]
  rw [E_or, f4]
  simp only [bind_ok', tru_bl, Bool.false_eq_true, if_false]
  rw [E_not, E_call]
  simp only [Es_cons, Es_nil, g5, g6, bind_ok', e5, tru_bl, Bool.not_true, Bool.false_eq_true, if_false, stm_ok', B_nil, go_next]
  exact t12 k hx hb h1 hS
theorem t10 (k : Nat) (hx : Cx σ a b c e d) (hb : Bx a b c e d) (h1 : Has σ 1 (.ref i)) (hS : St i ν) (h5 : Has σ 5 (oR (a * a - b * b * (d : Rat)))) : Tail k 10 σ ν := by
  show (evB (T (k + 12)) (d45.body.drop 10) σ ν).To _
  have hd : d45.body.drop 10 = .asg (.var 6) (.ite (.or (.ocmp .Eq (.omth "sign" (.var 12) []) (.omth "sign" (.var 13) [])) (.ocmp .Eq (.omth "sign" (.var 13) []) (.int 0))) (.omth "sign" (.var 12) []) (.ite (.ocmp .Eq (.omth "sign" (.var 12) []) (.int 0)) (.omth "sign" (.var 13) []) (.ite (.ocmp .Gt (.omth "sign" (.var 5) []) (.int 0)) (.omth "sign" (.var 12) []) (.omth "sign" (.var 13) [])))) :: d45.body.drop 11 := rfl
  rw [hd]
  have ga : evE (T (k + 12)) (.omth "sign" (.var 12) []) σ ν = .ok (.int (sg a)) ν := e_sign (j := k + 11) (hx.h12.ev _ _)
  have gb : evE (T (k + 12)) (.omth "sign" (.var 13) []) σ ν = .ok (.int (sg b)) ν := e_sign (j := k + 11) (hx.h13.ev _ _)
  have g5 : evE (T (k + 12)) (.omth "sign" (.var 5) []) σ ν = .ok (.int (sg (a * a - b * b * (d : Rat)))) ν := e_sign (j := k + 11) (h5.ev _ _)
  have he : evE (T (k + 12)) (.ite (.or (.ocmp .Eq (.omth "sign" (.var 12) []) (.omth "sign" (.var 13) [])) (.ocmp .Eq (.omth "sign" (.var 13) []) (.int 0))) (.omth "sign" (.var 12) []) (.ite (.ocmp .Eq (.omth "sign" (.var 12) []) (.int 0)) (.omth "sign" (.var 13) []) (.ite (.ocmp .Gt (.omth "sign" (.var 5) []) (.int 0)) (.omth "sign" (.var 12) []) (.omth "sign" (.var 13) [])))) σ ν = .ok (.int (sgS a b d)) ν := by
    unfold sgS
    by_cases q1 : sg a = sg b
    · simp only [E_ite, E_or, E_ocmp, ga, gb, bind_ok', cmpT_int, cmp_eqi, q1, decide_true, opt_some, tru_bl, if_true, true_or]
    · by_cases q2 : sg b = 0
      · have q1' : ¬ sg a = 0 := fun z => q1 (by rw [z, q2])
        simp only [E_ite, E_or, E_ocmp, ga, gb, bind_ok', E_int, cmpT_int, cmp_eqi, q1, q1', q2, decide_true, decide_false, opt_some, tru_bl, if_true, Bool.false_eq_true, if_false, or_true]
      · by_cases q3 : sg a = 0
        · have q4 : ¬ (0 : Int) = sg b := fun z => q2 z.symm
          simp only [E_ite, E_or, E_ocmp, ga, gb, bind_ok', E_int, cmpT_int, cmp_eqi, q1, q2, q3, q4, decide_true, decide_false, opt_some, tru_bl, if_true, Bool.false_eq_true, if_false, or_self]
        · by_cases q4 : 0 < sg (a * a - b * b * (d : Rat))
          · simp only [E_ite, E_or, E_ocmp, ga, gb, g5, bind_ok', E_int, cmpT_int, cmp_eqi, cmp_gt, q1, q2, q3, q4, decide_true, decide_false, opt_some, tru_bl, if_true, Bool.false_eq_true, if_false, or_self]
          · simp only [E_ite, E_or, E_ocmp, ga, gb, g5, bind_ok', E_int, cmpT_int, cmp_eqi, cmp_gt, q1, q2, q3, q4, decide_true, decide_false, opt_some, tru_bl, if_true, Bool.false_eq_true, if_false, or_self]
  simp only [B_cons, S_asg, he, stm_ok', A_var, calm_ok', go_next]
  exact t11 k (hx.set (.inl (by decide))) hb (h1.ne (by decide)) hS (Has.self (by rw [hx.len]; decide))
theorem t9 (k : Nat) (hx : Cx σ a b c e d) (hb : Bx a b c e d) (h1 : Has σ 1 (.ref i)) (hS : St i ν) : Tail k 9 σ ν := by
  show (evB (T (k + 12)) (d45.body.drop 9) σ ν).To _
  have hd : d45.body.drop 9 = .asg (.var 5) (.obin .Sub (.obin .Mult (.var 12) (.var 12)) (.obin .Mult (.obin .Mult (.var 13) (.var 13)) (.var 18))) :: d45.body.drop 10 := rfl
  rw [hd]
  have he : evE (T (k + 12)) (.obin .Sub (.obin .Mult (.var 12) (.var 12)) (.obin .Mult (.obin .Mult (.var 13) (.var 13)) (.var 18))) σ ν = .ok (oR (a * a - b * b * (d : Rat))) ν :=
    e_sub (j := k + 9) (e_mul (j := k + 9) (hx.h12.ev _ _) (hx.h12.ev _ _) hb.a hb.a (by decide)) (e_mul (j := k + 9) (e_mul (j := k + 9) (hx.h13.ev _ _) (hx.h13.ev _ _) hb.b hb.b (by decide)) (hx.h18.ev _ _) (hb.b.mul hb.b) hb.v.bd (by decide)) (hb.a.mul hb.a) ((hb.b.mul hb.b).mul hb.v.bd) (by decide)
  simp only [B_cons, S_asg, he, stm_ok', A_var, calm_ok', go_next]
  exact t10 k (hx.set (.inl (by decide))) hb (h1.ne (by decide)) hS (Has.self (by rw [hx.len]; decide))
def Told (a b c e : Rat) (d : Int) (v : MV) : Prop := (c = 0 ∧ e = 0 ∧ v = .tup [.str "refused", .str "zero"]) ∨ (lowR c e d ≠ 0 ∧ v = .tup [.str "told", S' ((a * c + b * (-e) * (d : Rat)) / lowR c e d) ((a * (-e) + b * c) / lowR c e d) d])
theorem t8 (k : Nat) {v : MV} (hx : Cx σ a b c e d) (hb : Bx a b c e d) (h1 : Has σ 1 (.ref i)) (hS : St i ν) (h4 : Has σ 4 v) (ht : Told a b c e d v) : Tail k 8 σ ν := by
  show (evB (T (k + 12)) (d45.body.drop 8) σ ν).To _
  have hd : d45.body.drop 8 = .ite (.and (.ocmp .Eq (.omth "sign" (.var 14) []) (.int 0)) (.ocmp .Eq (.omth "sign" (.var 15) []) (.int 0))) [.ite (.ocmp .NotEq (.var 4) (.tup [(.str "refused"), (.str "zero")])) [.ret (.bl false)] []] [.ite (.ocmp .NotEq (.obin .Mult (.idx (.var 4) (.int 1)) (.var 17)) (.var 16)) [.ret (.bl false)] []] :: d45.body.drop 9 := rfl
  rw [hd]
  have gc : evE (T (k + 12)) (.omth "sign" (.var 14) []) σ ν = .ok (.int (sg c)) ν := e_sign (j := k + 11) (hx.h14.ev _ _)
  have ge : evE (T (k + 12)) (.omth "sign" (.var 15) []) σ ν = .ok (.int (sg e)) ν := e_sign (j := k + 11) (hx.h15.ev _ _)
  rcases ht with ⟨rfl, rfl, rfl⟩ | ⟨h0, rfl⟩
  · have z0 : sg (0 : Rat) = 0 := sg_zero.mpr rfl
    have hne : cmpM ν .NotEq (.tup [.str "refused", .str "zero"]) (.tup [.str "refused", .str "zero"]) = some false := by
      have q1 : toD ν 39 (.str "refused") = some (.str "refused") := str_self (by decide +kernel)
      have q2 : toD ν 39 (.str "zero") = some (.str "zero") := str_self (by decide +kernel)
      have : toD ν 40 (.tup [.str "refused", .str "zero"]) = some (.tuple [.str "refused", .str "zero"]) := by
        show (toDs (toD ν 39) _).map PyData.tuple = _
        simp only [toDs, q1, q2, Option.map_some]
      simp only [cmpM, eq_self this]
      rfl
    simp only [B_cons, S_ite, E_and, E_ocmp, gc, ge, E_int, bind_ok', cmpT_int, cmp_eqi, z0, decide_true, opt_some, tru_bl, if_true, stm_ok', h4.ev, E_tup, Es_cons, Es_nil, E_str, newT2, cmpT_tup, hne, Bool.false_eq_true, if_false, B_nil, go_next]
    exact t9 k hx hb h1 hS
  · have hl : lowR c e d ≠ 0 := h0
    have bl := low_bd hb.c hb.e hb.w.lt
    have bA : Bd (2 * (30 + 30) + 4) (a * c + b * (-e) * (d : Rat)) := ((hb.a.mul hb.c).add ((hb.b.mul hb.e.neg).times hb.v.lt)).mono (by omega)
    have bB : Bd (2 * (30 + 30) + 4) (a * (-e) + b * c) := ((hb.a.mul hb.e.neg).add (hb.b.mul hb.c)).mono (by omega)
    have v3 : Vd d ((a * (-e) + b * c) / lowR c e d) := (hb.v.mul hb.w.neg a c).div _
    obtain ⟨w1, w2⟩ := over_back (a := a) (b := b) (show c * c - e * e * (d : Rat) ≠ 0 from h0)
    have hi : evE (T (k + 12)) (.idx (.var 4) (.int 1)) σ ν = .ok (S' ((a * c + b * (-e) * (d : Rat)) / lowR c e d) ((a * (-e) + b * c) / lowR c e d) d) ν := by
      simp only [E_idx, h4.ev, E_int, bind_ok']
      rfl
    have hne : evE (T (k + 12)) (.ocmp .NotEq (.obin .Mult (.idx (.var 4) (.int 1)) (.var 17)) (.var 16)) σ ν = .ok (.bl false) ν :=
      f_ne0 (j := k + 10) (f_mul (j := k + 8) hi (hx.h17.ev _ _) (bA.over bl h0) (bB.over bl h0) hb.c hb.e (by decide) v3 hb.w) (hx.h16.ev _ _) w1 w2
    have hn : (evS (T (k + 12)) (.ite (.and (.ocmp .Eq (.omth "sign" (.var 14) []) (.int 0)) (.ocmp .Eq (.omth "sign" (.var 15) []) (.int 0))) [.ite (.ocmp .NotEq (.var 4) (.tup [(.str "refused"), (.str "zero")])) [.ret (.bl false)] []] [.ite (.ocmp .NotEq (.obin .Mult (.idx (.var 4) (.int 1)) (.var 17)) (.var 16)) [.ret (.bl false)] []]) σ ν) = .ok (.next σ) ν := by
      rw [S_ite, E_and]
      simp only [E_ocmp, gc, ge, E_int, bind_ok', cmpT_int, cmp_eqi, opt_some, tru_bl]
      by_cases zc : sg c = 0
      · have ze : ¬ sg e = 0 := fun ze => h0 ((low_zero hb.w).mpr ⟨sg_zero.mp zc, sg_zero.mp ze⟩)
        simp only [zc, ze, decide_true, decide_false, if_true, bind_ok', opt_some, tru_bl, stm_ok', Bool.false_eq_true, if_false, B_cons, S_ite, hne, B_nil, go_next]
      · simp only [zc, decide_false, bind_ok', opt_some, tru_bl, stm_ok', Bool.false_eq_true, if_false, B_cons, S_ite, hne, B_nil, go_next]
    rw [B_cons, hn, go_next]
    exact t9 k hx hb h1 hS
theorem t7 (k : Nat) (hx : Cx σ a b c e d) (hb : Bx a b c e d) (h1 : Has σ 1 (.ref i)) (hS : St i ν) : Tail k 7 σ ν := by
  show (evB (T (k + 12)) (d45.body.drop 7) σ ν).To _
  have hd : d45.body.drop 7 = .asg (.var 4) (.call 41 [(.fn 43), (.tup [(.var 16), (.var 17)])]) :: d45.body.drop 8 := rfl
  rw [hd]
  obtain ⟨v, hv, ht⟩ : ∃ v, (T (k + 12)).call 41 [.fn 43, .tup [S' a b d, S' c e d]] ν = .ok v ν ∧ Told a b c e d v := by
    by_cases h0 : lowR c e d = 0
    · obtain ⟨z1, z2⟩ := (low_zero hb.w).mp h0
      refine ⟨_, result2 (k + 11) 43 (te_over (k + 10) (sover_zero (k + 5) hb.c hb.e (by decide) hb.w h0)) (fun z => ?_), .inl ⟨z1, z2, rfl⟩⟩
      have z : R.ok (MV.tup [.str "refused", .str "zero"]) ν = R.no := z
      cases z
    · refine ⟨_, result2 (k + 11) 43 (te_over (k + 10) (sover (k + 5) hb.a hb.b hb.c hb.e (by decide) hb.v hb.w h0)) (fun z => by cases z), .inr ⟨h0, rfl⟩⟩
  simp only [B_cons, S_asg, E_call, E_tup, E_fn, Es_cons, Es_nil, hx.h16.ev, hx.h17.ev, bind_ok', newT2, hv, stm_ok', A_var, calm_ok', go_next]
  exact t8 k (hx.set (.inl (by decide))) hb (h1.ne (by decide)) hS (Has.self (by rw [hx.len]; decide)) ht
theorem t6 (k : Nat) (hx : Cx σ a b c e d) (hb : Bx a b c e d) (h1 : Has σ 1 (.ref i)) (hS : St i ν) : Tail k 6 σ ν := by
  show (evB (T (k + 12)) (d45.body.drop 6) σ ν).To _
  have hd : d45.body.drop 6 = .ite (.or (.ocmp .NotEq (.obin .Add (.var 16) (.var 17)) (.mk 4 [(.obin .Add (.var 12) (.var 14)), (.obin .Add (.var 13) (.var 15)), (.var 2)])) (.or (.ocmp .NotEq (.obin .Sub (.var 16) (.var 17)) (.mk 4 [(.obin .Sub (.var 12) (.var 14)), (.obin .Sub (.var 13) (.var 15)), (.var 2)])) (.or (.ocmp .NotEq (.obin .Mult (.var 16) (.var 17)) (.mk 4 [(.obin .Add (.obin .Mult (.var 12) (.var 14)) (.obin .Mult (.obin .Mult (.var 13) (.var 15)) (.var 18))), (.obin .Add (.obin .Mult (.var 12) (.var 15)) (.obin .Mult (.var 13) (.var 14))), (.var 2)])) (.ocmp .NotEq (.oneg (.var 16)) (.mk 4 [(.oneg (.var 12)), (.oneg (.var 13)), (.var 2)]))))) [.ret (.bl false)] [] :: d45.body.drop 7 := rfl
  rw [hd]
  have v16 := hx.h16.ev (T (k + 12)) ν
  have v17 := hx.h17.ev (T (k + 12)) ν
  have v12 := hx.h12.ev (T (k + 12)) ν
  have v13 := hx.h13.ev (T (k + 12)) ν
  have v14 := hx.h14.ev (T (k + 12)) ν
  have v15 := hx.h15.ev (T (k + 12)) ν
  have v18 := hx.h18.ev (T (k + 12)) ν
  have v2 := hx.h2.ev (T (k + 12)) ν
  have e1 : evE (T (k + 12)) (.ocmp .NotEq (.obin .Add (.var 16) (.var 17)) (.mk 4 [(.obin .Add (.var 12) (.var 14)), (.obin .Add (.var 13) (.var 15)), (.var 2)])) σ ν = .ok (.bl false) ν :=
    f_ne0 (j := k + 10) (f_add (j := k + 8) v16 v17 hb.a hb.b hb.c hb.e (by decide) hb.v hb.w) (m_surd (J := k + 9) (e_add (j := k + 9) v12 v14 hb.a hb.c (by decide)) (e_add (j := k + 9) v13 v15 hb.b hb.e (by decide)) v2 (hb.v.add hb.w)) rfl rfl
  have e2 : evE (T (k + 12)) (.ocmp .NotEq (.obin .Sub (.var 16) (.var 17)) (.mk 4 [(.obin .Sub (.var 12) (.var 14)), (.obin .Sub (.var 13) (.var 15)), (.var 2)])) σ ν = .ok (.bl false) ν :=
    f_ne0 (j := k + 10) (f_sub (j := k + 8) v16 v17 hb.a hb.b hb.c hb.e (by decide) hb.v hb.w) (m_surd (J := k + 9) (e_sub (j := k + 9) v12 v14 hb.a hb.c (by decide)) (e_sub (j := k + 9) v13 v15 hb.b hb.e (by decide)) v2 (hb.v.sub hb.w)) rfl rfl
  have e3 : evE (T (k + 12)) (.ocmp .NotEq (.obin .Mult (.var 16) (.var 17)) (.mk 4 [(.obin .Add (.obin .Mult (.var 12) (.var 14)) (.obin .Mult (.obin .Mult (.var 13) (.var 15)) (.var 18))), (.obin .Add (.obin .Mult (.var 12) (.var 15)) (.obin .Mult (.var 13) (.var 14))), (.var 2)])) σ ν = .ok (.bl false) ν :=
    f_ne0 (j := k + 10) (f_mul (j := k + 8) v16 v17 hb.a hb.b hb.c hb.e (by decide) hb.v hb.w)
      (m_surd (J := k + 9) (e_add (j := k + 9) (e_mul (j := k + 9) v12 v14 hb.a hb.c (by decide)) (e_mul (j := k + 9) (e_mul (j := k + 9) v13 v15 hb.b hb.e (by decide)) v18 (hb.b.mul hb.e) hb.v.bd (by decide)) (hb.a.mul hb.c) ((hb.b.mul hb.e).mul hb.v.bd) (by decide))
        (e_add (j := k + 9) (e_mul (j := k + 9) v12 v15 hb.a hb.e (by decide)) (e_mul (j := k + 9) v13 v14 hb.b hb.c (by decide)) (hb.a.mul hb.e) (hb.b.mul hb.c) (by decide)) v2 (hb.v.mul hb.w _ _)) rfl rfl
  have e4 : evE (T (k + 12)) (.ocmp .NotEq (.oneg (.var 16)) (.mk 4 [(.oneg (.var 12)), (.oneg (.var 13)), (.var 2)])) σ ν = .ok (.bl false) ν :=
    f_ne0 (j := k + 10) (f_neg (j := k + 8) v16 hb.a hb.b (by decide) hb.v) (m_surd (J := k + 9) (e_neg (j := k + 9) v12 hb.a (by decide)) (e_neg (j := k + 9) v13 hb.b (by decide)) v2 hb.v.neg) rfl rfl
  rw [B_cons, S_ite]
  simp only [E_or, e1, e2, e3, e4, bind_ok', tru_bl, Bool.false_eq_true, if_false, stm_ok', B_nil, go_next]
  exact t7 k hx hb h1 hS
theorem t5 (k : Nat) (hL : σ.length = 24) (hb : Bx a b c e d) (h1 : Has σ 1 (.ref i)) (hS : St i ν) (h2 : Has σ 2 (.int d)) (h12 : Has σ 12 (oR a)) (h13 : Has σ 13 (oR b)) (h14 : Has σ 14 (oR c)) (h15 : Has σ 15 (oR e)) : Tail k 5 σ ν := by
  show (evB (T (k + 12)) (d45.body.drop 5) σ ν).To _
  have hd : d45.body.drop 5 = .asg (.tup [(.var 16), (.var 17), (.var 18)]) (.tup [(.mk 4 [(.var 12), (.var 13), (.var 2)]), (.mk 4 [(.var 14), (.var 15), (.var 2)]), (.mk 3 [(.var 2)])]) :: d45.body.drop 6 := rfl
  rw [hd]
  have m1 : evE (T (k + 12)) (.mk 4 [(.var 12), (.var 13), (.var 2)]) σ ν = .ok (S' a b d) ν := m_surd (J := k + 9) (h12.ev _ _) (h13.ev _ _) (h2.ev _ _) hb.v
  have m2 : evE (T (k + 12)) (.mk 4 [(.var 14), (.var 15), (.var 2)]) σ ν = .ok (S' c e d) ν := m_surd (J := k + 9) (h14.ev _ _) (h15.ev _ _) (h2.ev _ _) hb.w
  have hd8 : d.natAbs < 2 ^ 8000 := small2 (Nat.lt_trans hb.v.lt (by decide)) (by decide)
  have m3 : evE (T (k + 12)) (.mk 3 [(.var 2)]) σ ν = .ok (oR (d : Rat)) ν := by
    simp only [E_mk, Es_cons, Es_nil, h2.ev, bind_ok']
    exact mk_int (k + 10) hd8
  rw [B_cons, S_asg, E_tup]
  simp only [Es_cons, Es_nil, m1, m2, m3, bind_ok', newT3, stm_ok', A_tup, Ag_cons, Ag_nil, A_var, List.length_cons, List.length_nil, if_true, calm_ok', go_next]
  have g : ∀ {j v}, j < 16 → Has σ j v → Has (((σ.set 16 (some (S' a b d))).set 17 (some (S' c e d))).set 18 (some (oR (d : Rat)))) j v := fun hj h => ((h.ne (by omega)).ne (by omega)).ne (by omega)
  refine t6 k ⟨by simp only [List.length_set]; exact hL, g (by decide) h2, g (by decide) h12, g (by decide) h13, g (by decide) h14, g (by decide) h15, ?_, ?_, ?_⟩ hb (g (by decide) h1) hS
  · exact ((Has.self (by rw [hL]; decide)).ne (by decide)).ne (by decide)
  · exact (Has.self (by rw [List.length_set, hL]; decide)).ne (by decide)
  · exact Has.self (by rw [List.length_set, List.length_set, hL]; decide)
end
end Mch.k03

/-! ## k03: the law: its draws -/
namespace Mch.k03
open PySem Mch
section
variable {σ : Env} {ν μ : Mem} {a b c e : Rat} {d : Int} {i : Nat}
theorem t4 (k : Nat) {q : Nat} (hL : σ.length = 24) (hb : Bx a b c e d) (h1 : Has σ 1 (.ref i)) (hS : St i ν) (h2 : Has σ 2 (.int d)) (h3 : Has σ 3 (.ref q)) (hq : lstAt ν q = some [oR a, oR b, oR c, oR e]) : Tail k 4 σ ν := by
  show (evB (T (k + 12)) (d45.body.drop 4) σ ν).To _
  have hd : d45.body.drop 4 = .asg (.tup [(.var 12), (.var 13), (.var 14), (.var 15)]) (.var 3) :: d45.body.drop 5 := rfl
  rw [hd]
  have ha : asgT (T (k + 12)) (.tup [(.var 12), (.var 13), (.var 14), (.var 15)]) (.ref q) σ ν = .ok ((((σ.set 12 (some (oR a))).set 13 (some (oR b))).set 14 (some (oR c))).set 15 (some (oR e))) ν := by
    simp only [asgT, hq, List.length_cons, List.length_nil, if_true, asgT.go, bind_ok']
  simp only [B_cons, S_asg, h3.ev, stm_ok', ha, calm_ok', go_next]
  have g : ∀ {j v}, j < 12 → Has σ j v → Has ((((σ.set 12 (some (oR a))).set 13 (some (oR b))).set 14 (some (oR c))).set 15 (some (oR e))) j v := fun hj h => (((h.ne (by omega)).ne (by omega)).ne (by omega)).ne (by omega)
  refine t5 k (by simp only [List.length_set]; exact hL) hb (g (by decide) h1) hS (g (by decide) h2) ?_ ?_ ?_ ?_
  · exact (((Has.self (by rw [hL]; decide)).ne (by decide)).ne (by decide)).ne (by decide)
  · exact ((Has.self (by rw [List.length_set, hL]; decide)).ne (by decide)).ne (by decide)
  · exact (Has.self (by rw [List.length_set, List.length_set, hL]; decide)).ne (by decide)
  · exact Has.self (by rw [List.length_set, List.length_set, List.length_set, hL]; decide)
theorem t3 (k : Nat) {q : Nat} (hL : σ.length = 24) (hd4 : d = 1 ∨ d = 2 ∨ d = 3 ∨ d = 5) (ba : Bd 30 a) (bb : Bd 30 b) (bc : Bd 30 c) (be : Bd 30 e) (h1 : Has σ 1 (.ref i)) (hS : St i ν) (hiq : i ≠ q) (h2 : Has σ 2 (.int d)) (h3 : Has σ 3 (.ref q)) (hq : ν[q]? = some (.lst [oR a, oR b, oR c, oR e])) : Tail k 3 σ ν := by
  show (evB (T (k + 12)) (d45.body.drop 3) σ ν).To _
  have hd : d45.body.drop 3 = .ite (.ocmp .Eq (.var 2) (.int 1)) [.asg (.tup [(.idx (.var 3) (.int 1)), (.idx (.var 3) (.int 3))]) (.tup [(.mk 3 [(.int 0)]), (.mk 3 [(.int 0)])])] [] :: d45.body.drop 4 := rfl
  rw [hd]
  have hz : (T (k + 12)).make 3 [.int 0] ν = .ok (oR (0 : Rat)) ν := mkz k
  have hql : q < ν.length := (List.getElem?_eq_some_iff.mp hq).1
  by_cases h : d = 1
  · have s1 : setM ν (.ref q) (.int 1) (oR (0 : Rat)) = .ok () (ν.set q (.lst [oR a, oR 0, oR c, oR e])) := by
      simp only [setM, hq]
      rfl
    have q1 : (ν.set q (.lst [oR a, oR 0, oR c, oR e]))[q]? = some (.lst [oR a, oR 0, oR c, oR e]) := List.getElem?_set_self hql
    have s2 : setM (ν.set q (.lst [oR a, oR 0, oR c, oR e])) (.ref q) (.int 3) (oR (0 : Rat)) = .ok () ((ν.set q (.lst [oR a, oR 0, oR c, oR e])).set q (.lst [oR a, oR 0, oR c, oR 0])) := by
      simp only [setM, q1]
      rfl
    rw [B_cons, S_ite]
    simp only [E_ocmp, h2.ev, E_int, bind_ok', cmpT_int, cmp_eqi, h, decide_true, opt_some, tru_bl, stm_ok', if_true, B_cons, B_nil, S_asg, E_tup, Es_cons, Es_nil, E_mk, hz, newT2, A_tup, List.length_cons, List.length_nil, Ag_cons, Ag_nil, A_idx, h3.ev, s1, s2, calm_ok', go_next]
    subst h
    refine t4 k (b := 0) (e := 0) hL ⟨vd0 (.inl rfl), vd0 (.inl rfl), ba, small_bd (by decide +kernel), bc, small_bd (by decide +kernel)⟩ h1 ?_ h2 h3 ?_
    · obtain ⟨s, t, z1, z2⟩ := hS
      refine ⟨s, t, ?_, z2⟩
      rw [List.getElem?_set_ne (fun e => hiq e.symm), List.getElem?_set_ne (fun e => hiq e.symm)]
      exact z1
    · unfold lstAt
      rw [List.getElem?_set_self (by rw [List.length_set]; exact hql)]
  · rw [B_cons, S_ite]
    simp only [E_ocmp, h2.ev, E_int, bind_ok', cmpT_int, cmp_eqi, h, decide_false, opt_some, tru_bl, stm_ok', Bool.false_eq_true, if_false, B_nil, go_next]
    exact t4 k hL ⟨⟨hd4, fun z => absurd z h⟩, ⟨hd4, fun z => absurd z h⟩, ba, bb, bc, be⟩ h1 hS h2 h3 (by unfold lstAt; rw [hq])
theorem t2 (k : Nat) (hL : σ.length = 24) (hd4 : d = 1 ∨ d = 2 ∨ d = 3 ∨ d = 5) (h1 : Has σ 1 (.ref i)) (hS : St i ν) (h2 : Has σ 2 (.int d)) : Tail k 2 σ ν := by
  show (evB (T (k + 12)) (d45.body.drop 2) σ ν).To _
  have hd : d45.body.drop 2 = .asg (.var 3) (.comp (.mk 3 [(.obin .Sub (.call 37 [(.var 1), (.int 19)]) (.int 9)), (.obin .Add (.int 1) (.call 37 [(.var 1), (.int 4)]))]) (.var 21) (.rng [(.int 4)]) (.bl true) [21]) :: d45.body.drop 3 := rfl
  rw [hd]
  have hc : (evE (T (k + 12)) (.comp (.mk 3 [(.obin .Sub (.call 37 [(.var 1), (.int 19)]) (.int 9)), (.obin .Add (.int 1) (.call 37 [(.var 1), (.int 4)]))]) (.var 21) (.rng [(.int 4)]) (.bl true) [21]) σ ν).To fun v μ => ∃ L q, v = .ref q ∧ μ[q]? = some (.lst L) ∧ L.length = 4 ∧ (∀ x ∈ L, ∃ p, x = oR p ∧ Bd 30 p) ∧ i ≠ q ∧ St i μ := by
    refine comp_gen (J := .rng 0 4 1) (xs := rngL 0 4 1) (μ1 := ν) (fun n acc μ => acc.length = n ∧ (∀ x ∈ acc, ∃ p, x = oR p ∧ Bd 30 p) ∧ St i μ) (by rw [Tn, rngL_len]; decide) (by rw [sl, rngL_len]; decide) ?_ rfl ⟨rfl, by simp, hS⟩ (fun n acc μ h => ⟨rfl, by omega⟩) (fun n x acc μ hx h => ?_) fun acc μ h => ?_
    · simp only [E_rng, Es_cons, Es_nil, E_int, bind_ok']
      exact rng1 (by decide)
    · obtain ⟨l1, l2, l3⟩ := h
      refine ⟨_, by simp only [T_var]; rfl, ?_⟩
      simp only [wipe_cons, wipe_nil, List.set_set]
      have k1 : Has (σ.set 21 (some x)) 1 (.ref i) := h1.ne (by decide)
      obtain ⟨r, ν1, e1, y, rfl, y1, y2, s1, g1⟩ := (take_to (d := k + 11) k1 l3 (show (0 : Int) < 19 ∧ (19 : Int) < 1073741824 by decide)).eq
      obtain ⟨r, ν2, e2, z, rfl, z1, z2, s2, g2⟩ := (take_to (d := k + 11) k1 s1 (show (0 : Int) < 4 ∧ (4 : Int) < 1073741824 by decide)).eq
      have e1 : evE (T (k + 12)) (.call 37 [.var 1, .int 19]) (σ.set 21 (some x)) μ = .ok (.int y) ν1 := e1
      have e2 : evE (T (k + 12)) (.call 37 [.var 1, .int 4]) (σ.set 21 (some x)) ν1 = .ok (.int z) ν2 := e2
      have hm := mk_rat (k + 10) (a := y - 9) (b := 1 + z) (μ := ν2) (by omega) (small2 (by omega) (by decide)) (small2 (by omega) (by decide))
      unfold turnE
      simp only [E_bl, bind_ok', tru_bl, if_true, E_mk, Es_cons, Es_nil, E_obin, e1, e2, E_int, binT_int, bin_sub, bin_add, hm, To_ok]
      refine ⟨by simp [l1], fun w hw => ?_, s2⟩
      rcases List.mem_append.mp hw with hw | hw
      · exact l2 w hw
      · have : w = oR (Rat.divInt (y - 9) (1 + z)) := by simpa using hw
        exact ⟨_, this, bd_of (by omega) (by omega) (by omega)⟩
    · obtain ⟨l1, l2, l3⟩ := h
      rw [rngL_len] at l1
      exact ⟨acc, _, rfl, get_new, l1, l2, by have := l3.lt; omega, l3.grow (Grow.app _ _ _)⟩
  obtain ⟨v, μ1, e1, L, q, rfl, hq, hlen, hall, hiq, hS1⟩ := hc.eq
  obtain ⟨x1, x2, x3, x4, rfl⟩ : ∃ x1 x2 x3 x4, L = [x1, x2, x3, x4] := by
    match L, hlen with
    | [x1, x2, x3, x4], _ => exact ⟨x1, x2, x3, x4, rfl⟩
  obtain ⟨p1, rfl, b1⟩ := hall x1 (by simp)
  obtain ⟨p2, rfl, b2⟩ := hall x2 (by simp)
  obtain ⟨p3, rfl, b3⟩ := hall x3 (by simp)
  obtain ⟨p4, rfl, b4⟩ := hall x4 (by simp)
  simp only [B_cons, S_asg, e1, stm_ok', A_var, calm_ok', go_next]
  exact t3 k (by rw [List.length_set]; exact hL) hd4 b1 b2 b3 b4 (h1.ne (by decide)) hS1 hiq (h2.ne (by decide)) (Has.self (by rw [hL]; decide)) hq
theorem t1 (k : Nat) (hL : σ.length = 24) (h1 : Has σ 1 (.ref i)) (hS : St i ν) : Tail k 1 σ ν := by
  show (evB (T (k + 12)) (d45.body.drop 1) σ ν).To _
  have hd : d45.body.drop 1 = .asg (.var 2) (.idx (.lst [(.int 1), (.int 2), (.int 3), (.int 5)]) (.call 37 [(.var 1), (.int 4)])) :: d45.body.drop 2 := rfl
  rw [hd]
  have hS' : St i (ν ++ [.lst [.int 1, .int 2, .int 3, .int 5]]) := hS.grow (Grow.app _ _ _)
  obtain ⟨r, ν1, e1, x, rfl, x1, x2, s1, g1⟩ := (take_to (d := k + 11) h1 hS' (show (0 : Int) < 4 ∧ (4 : Int) < 1073741824 by decide)).eq
  have e1 : evE (T (k + 12)) (.call 37 [.var 1, .int 4]) σ (ν ++ [.lst [.int 1, .int 2, .int 3, .int 5]]) = .ok (.int x) ν1 := e1
  have hl : lstAt ν1 ν.length = some [.int 1, .int 2, .int 3, .int 5] := g1.lst lstAt_new (by have := hS.lt; simp; omega)
  have hi : ∃ d : Int, (d = 1 ∨ d = 2 ∨ d = 3 ∨ d = 5) ∧ idxM ν1 (.ref ν.length) (.int x) = some (.int d) := by
    have : x = 0 ∨ x = 1 ∨ x = 2 ∨ x = 3 := by omega
    rcases this with rfl | rfl | rfl | rfl
    · exact ⟨1, by decide, by simp [idxM, hl, ixM]⟩
    · exact ⟨2, by decide, by simp [idxM, hl, ixM]⟩
    · exact ⟨3, by decide, by simp [idxM, hl, ixM]⟩
    · exact ⟨5, by decide, by simp [idxM, hl, ixM]⟩
  obtain ⟨d, hd4, hi⟩ := hi
  simp only [B_cons, S_asg, E_idx, E_lst, Es_cons, Es_nil, E_int, bind_ok', newL4, e1, hi, opt_some, stm_ok', A_var, calm_ok', go_next]
  exact t2 k (by rw [List.length_set]; exact hL) hd4 (h1.ne (by decide)) s1 (Has.self (by rw [hL]; decide))
end
theorem law_run (ns : List Int) (hl : ns.length ≤ 63) : ∃ μ, (tabD prog 100000 40).call 45 [.ref 0] [.frz (ns.map MV.int)] = .ok (.bl true) μ := by
  have h : ((T 40).call 45 [.ref 0] [.frz (ns.map MV.int)]).To fun r _ => r = .bl true := by
    show (runD (T 39) d45 [.ref 0] [.frz (ns.map MV.int)]).To _
    refine runD_to rfl rfl ?_
    have hd : d45.body = .asg (.var 1) (.call 36 [(.var 0)]) :: d45.body.drop 1 := rfl
    rw [hd]
    obtain ⟨r, ν, e, i, rfl, hS, hg⟩ := (law_state 38 (a := 0) (μ := [.frz (ns.map MV.int)]) hl rfl).eq
    have e0 : evE (T 39) (.call 36 [(.var 0)]) (slots d45 [.ref 0]) [.frz (ns.map MV.int)] = .ok (.ref i) ν := by
      simp only [E_call, Es_cons, Es_nil, E_var (σ := slots d45 [.ref 0]) (i := 0) (v := .ref 0) rfl, bind_ok']
      exact e
    simp only [B_cons, S_asg, e0, stm_ok', A_var, calm_ok', go_next]
    exact t1 27 rfl (Has.self (by decide)) hS
  obtain ⟨r, μ, e, rfl⟩ := h.eq
  exact ⟨μ, e⟩
end Mch.k03

open PySem PySem.W PySem.Calls PyProof.Rows
set_option maxHeartbeats 0 in
theorem PySem.Challenge.cw_tetraroads_k03_whole_numbers_with_a_root_holds : PySem.Challenge.rw_tetraroads_k03_whole_numbers_with_a_root.Holds := by
  exact Mch.k03.law_if fun ns h _ => Mch.k03.law_run ns h
