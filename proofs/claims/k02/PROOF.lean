import PyProof.Rows.All
import Wide.All
import OpenK.AllK
import Wide.FinOn
import KE.KStateDown
import HandS.ForMost
import HandS.ForExc
import HandS.Flow
import HandS.IsInst
import HandS.Wide
import HandS.TupAny
import HandS.Conv
import HandS.StrMore
import HandS.Zip
import HandS.OwnEq
import HandS.TryMany
import HandS.CallSlots
import HandS.ExcInit
import HandS.ExcField
import HandS.Defaults
import HandS.Head0
import HandS.Head1
import HandS.Head2
import HandS.HeadEnd
import HandS.HeadHook1
import HandS.HeadHook2
import HandS.EndBits
import KE.KFmtOwn
import PyProof.InstNe
import HandS.SlotsOwn
import HandS.FStr
import HandS.Style
import HandS.ClsMeth
import HandS.Words
import PySem.Challenge.RW_tetraroads_k02_whole_rows_and_texts_of_r
set_option Elab.async false
set_option linter.all false
set_option maxRecDepth 100000
/-! ## The machine: a small interpreter of a part of Python, in plain Lean -/
namespace Mch
open PySem

/-- values: tuples and own objects are trees; lists and dicts stand in the memory -/
inductive MV where
  | non | bl (b : Bool) | int (i : Int) | str (x : Str) | tup (xs : List MV) | ref (i : Nat) | obj (c : Nat) (vs : List MV) | fn (f : Nat)
  | rng (lo : Int) (n : Nat) (st : Int) | zp (a b : MV) | en (a : MV) | exn (c : Nat) (vs : List MV) | dic (kvs : List (Int × Int))
  deriving Inhabited
inductive Cell where
  | lst (xs : List MV) | frz (xs : List MV) | dct (kvs : List (MV × MV))
abbrev Mem := List Cell
/-- an exception: its class, its fields -/
structure MX where
  c : Nat
  vs : List MV
inductive R (α : Type) where
  | ok (a : α) (μ : Mem) | exc (x : MX) (μ : Mem) | no
def R.bind {α β : Type} : R α → (α → Mem → R β) → R β
  | .ok a μ, f => f a μ
  | .exc x μ, _ => .exc x μ
  | .no, _ => .no
def R.opt {α : Type} (o : Option α) (μ : Mem) : R α := match o with
  | some a => .ok a μ
  | none => .no

/-! ### the syntax -/
inductive TyR where
  | int | bool | str | list | tuple | dict | cls (c : Nat)
  deriving DecidableEq
inductive BI where
  | abs | len | all | any | int | str | tuple | list | sum | min | max
  deriving DecidableEq
inductive Mt where
  | append | join | startswith | removeprefix | partition | split
  deriving DecidableEq
inductive E where
  | non | bl (b : Bool) | int (i : Int) | str (x : Str) | var (i : Nat) | fn (f : Nat) | gc (k : Nat)
  | neg (a : E) | not (a : E) | bin (op : Operator) (a b : E) | cmp (op : CmpOp) (a b : E) | cmp2 (o1 o2 : CmpOp) (a b c : E)
  | and (a b : E) | or (a b : E) | ite (c a b : E) | tup (as : List E) | lst (as : List E)
  | fld (a : E) (f : Str) | xfld (i : Nat) (f : Str) | idx (a b : E) | slc (a lo hi : E)
  | call (f : Nat) (as : List E) | callv (i : Nat) (as : List E) | mk (c : Nat) (as : List E)
  | bi (b : BI) (as : List E) | mth (m : Mt) (o : E) (as : List E) | omth (m : Str) (o : E) (as : List E) | isin (a : E) (ts : List TyR)
  | comp (elt tg it cond : E) (own : List Nat) | comp2 (elt tg it cond tg1 it1 cond1 : E) (own own1 : List Nat)
  | rng (as : List E) | zip (a b : E) | enum (a : E)
  | obin (op : Operator) (a b : E) | oneg (a : E) | ocmp (op : CmpOp) (a b : E) | ostr (a : E) | fmt (a : E) | fstr (as : List E)
  | cdx (k : Nat) (a : E) | compX (elt tg it cond : E) (own : List Nat) | dic (kvs : List (Int × Int))
inductive S where
  | asg (t e : E) | setf (f : Str) (e : E) | expr (e : E) | ite (c : E) (a b : List S) | while (c : E) (b : List S) | for (t it : E) (b : List S)
  | ret (e : E) | retN | raise (c : Nat) (as : List E) | brk | cnt | pass
  | try1 (b : List S) (c : Nat) (n : Option Nat) (h : List S) | try2 (b : List S) (c : Nat) (n : Option Nat) (h : List S) (c' : Nat) (n' : Option Nat) (h' : List S)
structure ClsM where
  fields : List Str
  init : Option Nat
  meths : List (Str × Nat)
  /-- the classes of the program above it, itself too -/
  up : List Nat := []
  /-- a class of exceptions -/
  exc : Bool := false
structure Def where
  np : Nat
  dfl : List MV
  ns : Nat
  body : List S
structure Prog where
  defs : List Def
  clss : List ClsM
  consts : List MV := []
  /-- dicts of the top: ints by ints -/
  dcs : List (List (Int × Int)) := []
structure Tab where
  P : Prog
  n : Nat
  call : Nat → List MV → Mem → R MV
  make : Nat → List MV → Mem → R MV
abbrev Env := List (Option MV)

/-! ### values -/
def lstAt (μ : Mem) (i : Nat) : Option (List MV) := match μ[i]? with
  | some (.lst xs) => some xs
  | some (.frz xs) => some xs
  | _ => none
def newL (xs : List MV) (μ : Mem) : R MV := if xs.length ≤ sizeLine then .ok (.ref μ.length) (μ ++ [.lst xs]) else .no
def newT (xs : List MV) (μ : Mem) : R MV := if xs.length ≤ sizeLine then .ok (.tup xs) μ else .no
/-- the place that an index of any sign means -/
def ixM (n : Nat) (i : Int) : Option Nat := if 0 ≤ i then (if i < n then some i.toNat else none) else if -(n : Int) ≤ i then some (i + n).toNat else none
def sIxM (n d : Nat) : Option Int → Nat
  | none => d
  | some v => if v < 0 then (v + (n : Int)).toNat else min v.toNat n
def cutM {α : Type} (xs : List α) (lo hi : Option Int) : List α := (xs.drop (sIxM xs.length 0 lo)).take (sIxM xs.length xs.length hi - sIxM xs.length 0 lo)

/-- the values of a list, by f -/
def toDs (f : MV → Option PyData) : List MV → Option (List PyData)
  | [] => some []
  | x :: xs => match f x, toDs f xs with
    | some d, some ds => some (d :: ds)
    | _, _ => none
/-- a value as data: None, bools, ints, texts, tuples, lists -/
def toD (μ : Mem) : Nat → MV → Option PyData
  | 0, _ => none
  | n + 1, x => match x with
    | .non => some .none
    | .bl b => some (.bool b)
    | .int i => some (.int i)
    | .str s => if PyData.strOk s then some (.str s) else none
    | .tup xs => (toDs (toD μ n) xs).map .tuple
    | .ref i => (match lstAt μ i with
      | some xs => (toDs (toD μ n) xs).map .list
      | none => none)
    | _ => none
def eqM (μ : Mem) (x y : MV) : Option Bool := match toD μ 40 x, toD μ 40 y with
  | some d, some e => some (PyData.eqv d e)
  | _, _ => none
def flatM : MV → Bool
  | .non => true
  | .bl _ => true
  | .int _ => true
  | .str _ => true
  | _ => false
def eqF : MV → MV → Bool
  | .non, .non => true
  | .bl a, .bl b => a == b
  | .bl a, .int b => (if a then 1 else 0) == b
  | .int a, .bl b => a == (if b then 1 else 0)
  | .int a, .int b => a == b
  | .str a, .str b => a == b
  | _, _ => false
/-- one sign in a text -/
def inS : MV → Str → Option Bool
  | .str s, z => (match s.cps.toList with
    | [c] => some (decide (c ∈ z.cps.toList))
    | _ => none)
  | _, _ => none
def inM (μ : Mem) (x y : MV) : Option Bool :=
  match (match y with
    | .tup xs => some xs
    | .ref i => lstAt μ i
    | _ => none) with
  | some xs => if flatM x && xs.all flatM then some (xs.any fun z => eqF z x) else none
  | none => none
def inA (μ : Mem) (x y : MV) : Option Bool := match y with
  | .str z => inS x z
  | y => inM μ x y
def cmpM (μ : Mem) : CmpOp → MV → MV → Option Bool
  | .Eq, x, y => eqM μ x y
  | .NotEq, x, y => (eqM μ x y).map (!·)
  | .Lt, .int a, .int b => some (decide (a < b))
  | .LtE, .int a, .int b => some (decide (a ≤ b))
  | .Gt, .int a, .int b => some (decide (b < a))
  | .GtE, .int a, .int b => some (decide (b ≤ a))
  | .LtE, .str a, .str b => some (!decide (b.cps.toList < a.cps.toList))
  | .Lt, .str a, .str b => some (decide (a.cps.toList < b.cps.toList))
  | .Is, .non, .non => some true
  | .Is, _, .non => some false
  | .IsNot, .non, .non => some false
  | .IsNot, _, .non => some true
  | .In, x, y => inA μ x y
  | .NotIn, x, y => (inM μ x y).map (!·)
  | _, _, _ => none
def truM (μ : Mem) : MV → Option Bool
  | .non => some false
  | .bl b => some b
  | .int i => some (i != 0)
  | .str s => if s.length ≤ sizeLine then some ((s.length : Int) != 0) else none
  | .tup xs => some (!xs.isEmpty)
  | .ref i => (lstAt μ i).map fun xs => !xs.isEmpty
  | _ => none
def mulOk (i j : Int) : Bool := (decide (-(2 ^ 64) < i) && decide (i < 2 ^ 64)) || (decide (-(2 ^ 64) < j) && decide (j < 2 ^ 64)) || decide (i.natAbs.log2 + j.natAbs.log2 < 1000000)
def divOk (j : Int) : Bool := decide (j ≠ 0) && (decide (j.natAbs < 1073741824) || (decide (0 < j) && decide (j.natAbs.log2 < 9000)))
def binM (μ : Mem) : Operator → MV → MV → R MV
  | .Add, .int a, .int b => .ok (.int (a + b)) μ
  | .Add, .str a, .str b => if a.length + b.length ≤ sizeLine then .ok (.str (a ++ b)) μ else .no
  | .Add, .tup a, .tup b => newT (a ++ b) μ
  | .Add, .ref i, .ref j => (match μ[i]?, μ[j]? with
    | some (.lst a), some (.lst b) => newL (a ++ b) μ
    | _, _ => .no)
  | .Sub, .int a, .int b => .ok (.int (a - b)) μ
  | .Mult, .ref i, .int n => (match μ[i]? with
    | some (.lst a) => if -(2 ^ 62) ≤ n ∧ n < 2 ^ 62 ∧ a.length * n.toNat ≤ sizeLine then newL (List.replicate n.toNat a).flatten μ else .no
    | _ => .no)
  | .Mult, .str a, .int n => if 2 ≤ n ∧ n ≤ 1000 ∧ 1 ≤ a.length ∧ a.length ≤ 1000 then .ok (.str ⟨(List.replicate n.toNat a.cps).foldl (· ++ ·) #[]⟩) μ else .no
  | .Mult, .int a, .int b => if mulOk a b then .ok (.int (a * b)) μ else .no
  | .FloorDiv, .int a, .int b => if divOk b then .ok (.int (a.fdiv b)) μ else .no
  | .Mod, .int a, .int b => if b ≠ 0 then .ok (.int (a.fmod b)) μ else .no
  | _, _, _ => .no
def idxM (μ : Mem) : MV → MV → Option MV
  | .tup xs, .int i => (ixM xs.length i).bind fun j => xs[j]?
  | .ref a, .int i => (lstAt μ a).bind fun xs => (ixM xs.length i).bind fun j => xs[j]?
  | .str s, .int i => if s.length ≤ sizeLine then (ixM s.cps.toList.length i).bind fun j => (s.cps.toList[j]?).map fun c => .str ⟨#[c]⟩ else none
  | _, _ => none
def slcM (μ : Mem) (x : MV) (lo hi : Option Int) : R MV := match x with
  | .tup xs => newT (cutM xs lo hi) μ
  | .ref a => (match lstAt μ a with
    | some xs => newL (cutM xs lo hi) μ
    | none => .no)
  | .str s => if s.length ≤ sizeLine then .ok (.str ⟨(cutM s.cps.toList lo hi).toArray⟩) μ else .no
  | _ => .no
def E.isNon : E → Bool
  | .non => true
  | _ => false
def partR (n : Bool) (r : R MV) (μ : Mem) : R (Option Int) := if n then .ok none μ else r.bind fun v μ => match v with
  | .int i => .ok (some i) μ
  | _ => .no
/-- xs[i] = v -/
def setM (μ : Mem) : MV → MV → MV → R Unit
  | .ref a, .int i, v => (match μ[a]? with
    | some (.lst xs) => (match ixM xs.length i with
      | some j => .ok () (μ.set a (.lst (xs.set j v)))
      | none => .no)
    | _ => .no)
  | _, _, _ => .no
/-- the i-th thing that is walked -/
def nth (μ : Mem) : MV → Nat → Option (Option MV)
  | .tup xs, i => some xs[i]?
  | .ref a, i => (lstAt μ a).map (·[i]?)
  | .str s, i => some ((s.cps.toList[i]?).map fun c => .str ⟨#[c]⟩)
  | .rng lo n st, i => some (if i < n then some (.int (lo + i * st)) else none)
  | .zp a b, i => (match nth μ a i, nth μ b i with
    | some (some x), some (some y) => some (some (.tup [x, y]))
    | some _, some _ => some none
    | _, _ => none)
  | .en a, i => (match nth μ a i with
    | some (some x) => some (some (.tup [.int i, x]))
    | some none => some none
    | none => none)
  | _, _ => none
def itM (μ : Mem) : MV → R MV
  | .tup xs => .ok (.tup xs) μ
  | .ref a => (match lstAt μ a with
    | some _ => .ok (.ref a) μ
    | none => .no)
  | .str s => if s.length ≤ sizeLine then .ok (.str s) μ else .no
  | .rng lo n st => .ok (.rng lo n st) μ
  | .zp a b => .ok (.zp a b) μ
  | .en a => .ok (.en a) μ
  | _ => .no
def zipM (μ : Mem) : List MV → R MV
  | [.tup xs, .tup ys] => .ok (.zp (.tup xs) (.tup ys)) μ
  | [.ref a, .ref b] => if (lstAt μ a).isSome && (lstAt μ b).isSome then .ok (.zp (.ref a) (.ref b)) μ else .no
  | _ => .no
def rngM (μ : Mem) : List MV → R MV
  | [.int a] => if -(2 ^ 62) ≤ a ∧ a < 2 ^ 62 then .ok (.rng 0 a.toNat 1) μ else .no
  | [.int a, .int b] => if -(2 ^ 62) ≤ a ∧ a < 2 ^ 62 ∧ -(2 ^ 62) ≤ b ∧ b < 2 ^ 62 then .ok (.rng a (b - a).toNat 1) μ else .no
  | _ => .no
def bls : List MV → Option (List Bool)
  | [] => some []
  | .bl b :: r => (bls r).map (b :: ·)
  | _ => none
def strs' : List MV → Option (List Str)
  | [] => some []
  | .str b :: r => (strs' r).map (b :: ·)
  | _ => none
def biM (μ : Mem) : BI → List MV → R MV
  | .abs, [.int a] => .ok (.int (if a < 0 then -a else a)) μ
  | .len, [.str s] => if s.length ≤ sizeLine then .ok (.int s.length) μ else .no
  | .len, [.tup xs] => .ok (.int xs.length) μ
  | .len, [.ref a] => (match lstAt μ a with
    | some xs => .ok (.int xs.length) μ
    | none => .no)
  | .all, [.ref a] => (match (lstAt μ a).bind bls with
    | some bs => .ok (.bl (bs.all _root_.id)) μ
    | none => .no)
  | .any, [.ref a] => (match (lstAt μ a).bind bls with
    | some bs => .ok (.bl (bs.any _root_.id)) μ
    | none => .no)
  | .int, [.int a] => .ok (.int a) μ
  | .int, [.str a] => (match intText? a with
    | some n => if a.length ≤ 640 then .ok (.int n) μ else .no
    | none => .no)
  | .int, [.bl b] => .ok (.int (if b then 1 else 0)) μ
  | .str, [.int a] => if a.natAbs.log2 < 1920 then .ok (.str (toString a : String)) μ else .no
  | .tuple, [.ref a] => (match lstAt μ a with
    | some xs => .ok (.tup xs) μ
    | none => .no)
  | .tuple, [.tup xs] => .ok (.tup xs) μ
  | .list, [.ref a] => (match lstAt μ a with
    | some xs => newL xs μ
    | none => .no)
  | .list, [.tup xs] => newL xs μ
  | _, _ => .no
/-- the receiver is of the method's type -/
def mthTy (μ : Mem) : Mt → MV → Bool
  | .append, .ref a => (lstAt μ a).isSome
  | .join, .str _ => true
  | .startswith, .str _ => true
  | .removeprefix, .str _ => true
  | .partition, .str _ => true
  | .split, .str _ => true
  | _, _ => false
def mthM (μ : Mem) : Mt → MV → List MV → R MV
  | .append, .ref a, [v] => (match μ[a]? with
    | some (.lst xs) => if xs.length < sizeLine then .ok .non (μ.set a (.lst (xs ++ [v]))) else .no
    | _ => .no)
  | .join, .str s, [.ref a] => (match (lstAt μ a).bind strs' with
    | some ys => if (ys.map (·.length)).sum + ys.length * s.length ≤ 16777216 then .ok (.str (Txt.join s ys)) μ else .no
    | none => .no)
  | .startswith, .str a, [.str b] => .ok (.bl (Txt.startswith a b)) μ
  | .removeprefix, .str a, [.str b] => if a.length ≤ sizeLine then .ok (.str (Txt.removeprefix a b)) μ else .no
  | .partition, .str a, [.str b] => if (b.length == 0) = false ∧ a.length ≤ sizeLine then newT [.str (Txt.partition a b).1, .str (Txt.partition a b).2.1, .str (Txt.partition a b).2.2] μ else .no
  | .split, .str a, [.str b] => if (b.length == 0) = false ∧ a.length + 2 ≤ sizeLine then newL ((Txt.split a b).map .str) μ else .no
  | _, _, _ => .no
def tyM (P : Prog) (μ : Mem) (x : MV) : TyR → Option Bool
  | .cls c => (match x with
    | .obj d _ => (match P.clss[d]? with
      | some Cl => if Cl.exc then none else some (decide (c ∈ Cl.up))
      | none => none)
    | .non => some false
    | .bl _ => some false
    | .int _ => some false
    | .str _ => some false
    | .tup _ => some false
    | .dic _ => some false
    | .ref a => (lstAt μ a).map fun _ => false
    | _ => none)
  | t => (match x with
    | .non => some false
    | .bl _ => some (decide (t = .bool ∨ t = .int))
    | .int _ => some (decide (t = .int))
    | .str _ => some (decide (t = .str))
    | .tup _ => some (decide (t = .tuple))
    | .dic _ => some (decide (t = .dict))
    | .ref a => (lstAt μ a).map fun _ => decide (t = .list)
    | .obj d _ => (match P.clss[d]? with
      | some Cl => if Cl.exc then none else some false
      | none => none)
    | _ => none)
def tysM (P : Prog) (μ : Mem) (x : MV) : List TyR → Option Bool
  | [] => some false
  | t :: ts => match tyM P μ x t with
    | some true => some true
    | some false => tysM P μ x ts
    | none => none
def opName : Operator → Str
  | .Add => "__add__"
  | .Sub => "__sub__"
  | .Mult => "__mul__"
  | _ => "-"
def methOf (P : Prog) (c : Nat) (m : Str) : Option Nat := (P.clss[c]?).bind fun C => if C.exc then none else C.meths.lookup m
/-! ### operators on own objects -/
/-- what may stand at the other side of an operator of an object of the class c -/
def othB (c : Nat) (μ : Mem) : MV → Bool
  | .non => true
  | .bl _ => true
  | .int _ => true
  | .str _ => true
  | .tup _ => true
  | .ref a => (lstAt μ a).isSome
  | .obj d _ => d == c
  | _ => false
/-- .. of a comparison -/
def othC (P : Prog) (c : Nat) (μ : Mem) : MV → Bool
  | .obj d _ => d == c || (match P.clss[d]? with
    | some D => !D.exc && !(D.up.contains c)
    | none => false)
  | v => othB c μ v
def cmName : CmpOp → Option Str
  | .Eq => some "__eq__"
  | .Lt => some "__lt__"
  | .LtE => some "__le__"
  | .Gt => some "__gt__"
  | .GtE => some "__ge__"
  | _ => none
def binT (T : Tab) (μ : Mem) (op : Operator) (x y : MV) : R MV := match x with
  | .obj c vs => (match methOf T.P c (opName op) with
    | some f => if othB c μ y then T.call f [.obj c vs, y] μ else .no
    | none => .no)
  | x => binM μ op x y
def negT (T : Tab) (μ : Mem) (x : MV) : R MV := match x with
  | .obj c vs => (match methOf T.P c "__neg__" with
    | some f => T.call f [.obj c vs] μ
    | none => .no)
  | .int i => .ok (.int (-i)) μ
  | _ => .no
def notEqO : CmpOp → Bool
  | .NotEq => true
  | _ => false
/-- item by item -/
def Each (R : MV → MV → Prop) (xs ys : List MV) : Prop := xs.length = ys.length ∧ ∀ (i : Nat) x y, xs[i]? = some x → ys[i]? = some y → R x y
/-- lists and tuples that are seen to be equal, with objects that are by their own == -/
def sameO (T : Tab) (μ : Mem) : Nat → MV → MV → Prop
  | 0, _, _ => False
  | n + 1, x, y => match x, y with
    | .obj c vs, .obj d ws => c = d ∧ ∃ f, methOf T.P c "__eq__" = some f ∧ T.call f [.obj c vs, .obj d ws] μ = .ok (.bl true) μ
    | .tup xs, .tup ys => Each (sameO T μ n) xs ys
    | .ref a, .ref b => ∃ xs ys, μ[a]? = some (.lst xs) ∧ μ[b]? = some (.lst ys) ∧ Each (sameO T μ n) xs ys
    | x, y => flatM x = true ∧ flatM y = true ∧ eqF x y = true
def isEq : CmpOp → Option Bool
  | .Eq => some true
  | .NotEq => some false
  | _ => none
open Classical in
noncomputable def cmpS (T : Tab) (μ : Mem) (op : CmpOp) (x y : MV) : R Bool := match cmpM μ op x y with
  | some k => .ok k μ
  | none => match isEq op with
    | some k => if sameO T μ 3 x y then .ok k μ else .no
    | none => .no
noncomputable def cmpT (T : Tab) (μ : Mem) (op : CmpOp) (x y : MV) : R Bool := match x with
  | .obj c vs => if notEqO op then (match methOf T.P c "__eq__" with
    | some f => if (methOf T.P c "__ne__").isNone && othC T.P c μ y then (T.call f [.obj c vs, y] μ).bind fun r μ => (match r with
      | .bl k => .ok (!k) μ
      | _ => .no) else .no
    | none => .no) else (match (cmName op).bind (methOf T.P c) with
    | some f => if othC T.P c μ y then (T.call f [.obj c vs, y] μ).bind fun r μ => (match r with
      | .bl k => .ok k μ
      | _ => .no) else .no
    | none => .no)
  | .tup xs => cmpS T μ op (.tup xs) y
  | .ref a => cmpS T μ op (.ref a) y
  | x => R.opt (cmpM μ op x y) μ
def strT (T : Tab) (μ : Mem) (x : MV) : R MV := match x with
  | .obj c vs => (match methOf T.P c "__str__" with
    | some f => (T.call f [.obj c vs] μ).bind fun r μ => (match r with
      | .str s => .ok (.str s) μ
      | _ => .no)
    | none => .no)
  | x => biM μ .str [x]
/-- a value in an f-string -/
def fmtM (μ : Mem) : MV → R MV
  | .str s => if s.length ≤ sizeLine then .ok (.str s) μ else .no
  | .int a => if a.natAbs.log2 < 1920 then .ok (.str (toString a : String)) μ else .no
  | _ => .no

def fmtT (T : Tab) (μ : Mem) (x : MV) : R MV := match x with
  | .obj c vs => strT T μ (.obj c vs)
  | x => fmtM μ x

/-! ### running -/
/-- storing into names: a name, a tuple of names -/
def bindT : E → MV → Env → Option Env
  | .var i, v, σ => some (σ.set i (some v))
  | .tup ts, v, σ => (match v with
    | .tup xs => if xs.length = ts.length then go ts xs σ else none
    | _ => none)
  | _, _, _ => none
where
  go : List E → List MV → Env → Option Env
    | [], [], σ => some σ
    | t :: ts, x :: xs, σ => (bindT t x σ).bind fun σ' => go ts xs σ'
    | _, _, _ => none
def wipeM (σ : Env) : List Nat → Env
  | [] => σ
  | v :: vs => (wipeM σ vs).set v none
def compL (it : MV) (body : List MV → MV → Mem → R (List MV)) : Nat → Nat → List MV → Mem → R (List MV)
  | 0, _, _, _ => .no
  | n + 1, i, acc, μ => match nth μ it i with
    | some (some x) => (body acc x μ).bind fun acc' μ' => compL it body n (i + 1) acc' μ'
    | some none => .ok acc μ
    | none => .no
def putL (acc : List MV) (v : MV) (μ : Mem) : R (List MV) := if acc.length < sizeLine then .ok (acc ++ [v]) μ else .no
/-- inside a comprehension nothing is raised -/
def R.calm {α : Type} : R α → R α
  | .exc _ _ => .no
  | r => r
def truR (v : MV) (μ : Mem) : R Bool := R.opt (truM μ v) μ

mutual
noncomputable def evE (T : Tab) : E → Env → Mem → R MV
  | .non, _, μ => .ok .non μ
  | .bl b, _, μ => .ok (.bl b) μ
  | .int i, _, μ => .ok (.int i) μ
  | .str x, _, μ => .ok (.str x) μ
  | .var i, σ, μ => (match σ[i]? with
    | some (some v) => .ok v μ
    | _ => .no)
  | .fn f, _, μ => .ok (.fn f) μ
  | .gc k, _, μ => R.opt T.P.consts[k]? μ
  | .neg a, σ, μ => (evE T a σ μ).bind fun x μ => (match x with
    | .int i => .ok (.int (-i)) μ
    | _ => .no)
  | .not a, σ, μ => (evE T a σ μ).bind fun x μ => (truR x μ).bind fun b μ => .ok (.bl (!b)) μ
  | .bin op a b, σ, μ => (evE T a σ μ).bind fun x μ => (evE T b σ μ).bind fun y μ => binM μ op x y
  | .cmp op a b, σ, μ => (evE T a σ μ).bind fun x μ => (evE T b σ μ).bind fun y μ => (R.opt (cmpM μ op x y) μ).bind fun k μ => .ok (.bl k) μ
  | .cmp2 o1 o2 a b c, σ, μ => (evE T a σ μ).bind fun x μ => (evE T b σ μ).bind fun y μ => (R.opt (cmpM μ o1 x y) μ).bind fun k μ =>
      if k then (evE T c σ μ).bind fun z μ => (R.opt (cmpM μ o2 y z) μ).bind fun k μ => .ok (.bl k) μ else .ok (.bl false) μ
  | .and a b, σ, μ => (evE T a σ μ).bind fun x μ => (truR x μ).bind fun k μ => if k then evE T b σ μ else .ok x μ
  | .or a b, σ, μ => (evE T a σ μ).bind fun x μ => (truR x μ).bind fun k μ => if k then .ok x μ else evE T b σ μ
  | .ite c a b, σ, μ => (evE T c σ μ).bind fun x μ => (truR x μ).bind fun k μ => if k then evE T a σ μ else evE T b σ μ
  | .tup as, σ, μ => (evEs T as σ μ).bind fun xs μ => newT xs μ
  | .lst as, σ, μ => (evEs T as σ μ).bind fun xs μ => newL xs μ
  | .fld a f, σ, μ => (evE T a σ μ).bind fun x μ => (match x with
    | .obj c vs => R.opt ((T.P.clss[c]?).bind fun C => if C.init.isSome then (C.fields.idxOf? f).bind fun j => vs[j]? else none) μ
    | _ => .no)
  | .xfld i f, σ, μ => (match (σ[i]? : Option (Option MV)) with
    | some (some (MV.exn c vs)) => R.opt ((T.P.clss[c]?).bind fun C => if C.exc = false then none else (C.fields.idxOf? f).bind fun j => vs[j]?) μ
    | _ => .no)
  | .idx a b, σ, μ => (evE T a σ μ).bind fun x μ => (evE T b σ μ).bind fun y μ => R.opt (idxM μ x y) μ
  | .slc a lo hi, σ, μ => (evE T a σ μ).bind fun x μ => (partR lo.isNon (evE T lo σ μ) μ).bind fun l μ => (partR hi.isNon (evE T hi σ μ) μ).bind fun h μ => slcM μ x l h
  | .call f as, σ, μ => (evEs T as σ μ).bind fun xs μ => T.call f xs μ
  | .callv i as, σ, μ => (match σ[i]? with
    | some (some (.fn f)) => (evEs T as σ μ).bind fun xs μ => T.call f xs μ
    | _ => .no)
  | .mk c as, σ, μ => (evEs T as σ μ).bind fun xs μ => T.make c xs μ
  | .bi b as, σ, μ => (evEs T as σ μ).bind fun xs μ => biM μ b xs
  | .mth m o as, σ, μ => (evE T o σ μ).bind fun x μ => if mthTy μ m x then (evEs T as σ μ).bind fun xs μ => mthM μ m x xs else .no
  | .omth m o as, σ, μ => (evE T o σ μ).bind fun x μ => (match x with
    | .obj c vs => (match methOf T.P c m with
      | some f => (evEs T as σ μ).bind fun xs μ => T.call f (.obj c vs :: xs) μ
      | none => .no)
    | _ => .no)
  | .isin a ts, σ, μ => (evE T a σ μ).bind fun x μ => (R.opt (tysM T.P μ x ts) μ).bind fun k μ => .ok (.bl k) μ
  | .comp elt tg it cond own, σ, μ => (evE T it σ μ).bind fun J μ => (itM μ J).bind fun J μ =>
      (compL J (fun acc x μ => (R.opt (bindT tg x (wipeM σ own)) μ).bind fun σ1 μ => R.calm ((evE T cond σ1 μ).bind fun k μ => (truR k μ).bind fun k μ =>
        if k then (evE T elt σ1 μ).bind fun v μ => putL acc v μ else .ok acc μ)) T.n 0 [] μ).bind fun xs μ => newL xs μ
  | .comp2 elt tg it cond tg1 it1 cond1 own own1, σ, μ => (evE T it σ μ).bind fun J μ => (itM μ J).bind fun J μ =>
      (compL J (fun acc x μ => (R.opt (bindT tg x (wipeM σ own)) μ).bind fun σ1 μ => R.calm ((evE T cond σ1 μ).bind fun k μ => (truR k μ).bind fun k μ =>
        if k then (evE T it1 σ1 μ).bind fun J1 μ => (itM μ J1).bind fun J1 μ =>
          compL J1 (fun acc x μ => (R.opt (bindT tg1 x (wipeM σ1 own1)) μ).bind fun σ2 μ => (evE T cond1 σ2 μ).bind fun k μ => (truR k μ).bind fun k μ =>
            if k then (evE T elt σ2 μ).bind fun v μ => putL acc v μ else .ok acc μ) T.n 0 acc μ
        else .ok acc μ)) T.n 0 [] μ).bind fun xs μ => newL xs μ
  | .compX elt tg it cond own, σ, μ => (evE T it σ μ).bind fun J μ => (itM μ J).bind fun J μ =>
      (compL J (fun acc x μ => (R.opt (bindT tg x (wipeM σ own)) μ).bind fun σ1 μ => (R.calm ((evE T cond σ1 μ).bind fun k μ => truR k μ)).bind fun k μ =>
        if k then (evE T elt σ1 μ).bind fun v μ => putL acc v μ else .ok acc μ) T.n 0 [] μ).bind fun xs μ => newL xs μ
  | .dic kvs, _, μ => .ok (.dic kvs) μ
  | .rng as, σ, μ => (evEs T as σ μ).bind fun xs μ => rngM μ xs
  | .obin op a b, σ, μ => (evE T a σ μ).bind fun x μ => (evE T b σ μ).bind fun y μ => binT T μ op x y
  | .oneg a, σ, μ => (evE T a σ μ).bind fun x μ => negT T μ x
  | .ocmp op a b, σ, μ => (evE T a σ μ).bind fun x μ => (evE T b σ μ).bind fun y μ => (cmpT T μ op x y).bind fun k μ => .ok (.bl k) μ
  | .ostr a, σ, μ => (evE T a σ μ).bind fun x μ => strT T μ x
  | .fmt a, σ, μ => (evE T a σ μ).bind fun x μ => fmtT T μ x
  | .cdx k a, σ, μ => (evE T a σ μ).bind fun x μ => (match x with
    | .int i => R.opt ((T.P.dcs[k]?).bind fun D => (D.lookup i).map .int) μ
    | _ => .no)
  | .fstr as, σ, μ => (evF T as Str.empty σ μ).bind fun y μ => .ok (.str y) μ
  | .zip a b, σ, μ => (evE T a σ μ).bind fun x μ => (evE T b σ μ).bind fun y μ => zipM μ [x, y]
  | .enum a, σ, μ => (evE T a σ μ).bind fun x μ => (itM μ x).bind fun x μ => .ok (.en x) μ
noncomputable def evEs (T : Tab) : List E → Env → Mem → R (List MV)
  | [], _, μ => .ok [] μ
  | e :: es, σ, μ => (evE T e σ μ).bind fun x μ => (evEs T es σ μ).bind fun xs μ => .ok (x :: xs) μ
/-- an f-string's texts, one behind another -/
noncomputable def evF (T : Tab) : List E → Str → Env → Mem → R Str
  | [], acc, _, μ => .ok acc μ
  | e :: es, acc, σ, μ => (evE T e σ μ).bind fun x μ => (match x with
    | .str y => if (acc ++ y).length ≤ sizeLine then evF T es (acc ++ y) σ μ else .no
    | _ => .no)
end

/-- how a statement ends -/
inductive Fl where
  | next (σ : Env) | ret (v : MV) | brk (σ : Env) | cnt (σ : Env)
inductive RS where
  | ok (f : Fl) (μ : Mem) | exc (x : MX) (σ : Env) (μ : Mem) | no
def R.stm {α : Type} (σ : Env) : R α → (α → Mem → RS) → RS
  | .ok a μ, k => k a μ
  | .exc x μ, _ => .exc x σ μ
  | .no, _ => .no
/-- behind a statement that goes on -/
def RS.go : RS → (Env → Mem → RS) → RS
  | .ok (.next σ) μ, k => k σ μ
  | r, _ => r
/-- behind a loop's turn -/
def RS.turn : RS → (Env → Mem → RS) → RS
  | .ok (.next σ) μ, k => k σ μ
  | .ok (.cnt σ) μ, k => k σ μ
  | .ok (.brk σ) μ, _ => .ok (.next σ) μ
  | r, _ => r
noncomputable def asgT (T : Tab) : E → MV → Env → Mem → R Env
  | .var i, v, σ, μ => .ok (σ.set i (some v)) μ
  | .tup ts, v, σ, μ => (match v with
    | .tup xs => if xs.length = ts.length then go T ts xs σ μ else .no
    | .ref a => (match lstAt μ a with
      | some xs => if xs.length = ts.length then go T ts xs σ μ else .no
      | none => .no)
    | _ => .no)
  | .idx a b, v, σ, μ => (evE T a σ μ).bind fun x μ => (evE T b σ μ).bind fun y μ => (setM μ x y v).bind fun _ μ => .ok σ μ
  | _, _, _, _ => .no
where
  go (T : Tab) : List E → List MV → Env → Mem → R Env
    | [], [], σ, μ => .ok σ μ
    | t :: ts, x :: xs, σ, μ => (asgT T t x σ μ).bind fun σ μ => go T ts xs σ μ
    | _, _, _, _ => .no
def whileL (c : Env → Mem → R Bool) (b : Env → Mem → RS) : Nat → Env → Mem → RS
  | 0, _, _ => .no
  | n + 1, σ, μ => (c σ μ).stm σ fun k μ => if k then (b σ μ).turn fun σ μ => whileL c b n σ μ else .ok (.next σ) μ
def forL (it : MV) (g : MV → Env → Option Env) (b : Env → Mem → RS) : Nat → Nat → Env → Mem → RS
  | 0, _, _, _ => .no
  | n + 1, i, σ, μ => match nth μ it i with
    | some (some x) => (match g x σ with
      | some σ => (b σ μ).turn fun σ μ => forL it g b n (i + 1) σ μ
      | none => .no)
    | some none => .ok (.next σ) μ
    | none => .no
/-- is an exception of that class one of this -/
def isX (P : Prog) (x : MX) (c : Nat) : Option Bool := match P.clss[x.c]? with
  | some C => if C.exc then some (decide (c ∈ C.up)) else none
  | none => none
/-- an except suite, with the name that it binds -/
def suite (n : Option Nat) (h : Env → Mem → RS) (x : MX) (σ : Env) (μ : Mem) : RS := match n with
  | none => h σ μ
  | some i => if σ.length ≤ i then .no else match h (σ.set i (some (.exn x.c x.vs))) μ with
    | .ok (.next σ) μ => .ok (.next (σ.set i none)) μ
    | .ok (.brk σ) μ => .ok (.brk (σ.set i none)) μ
    | .ok (.cnt σ) μ => .ok (.cnt (σ.set i none)) μ
    | .ok (.ret v) μ => .ok (.ret v) μ
    | _ => .no
def RS.calm : RS → RS
  | .exc _ _ _ => .no
  | r => r
/-- an exception of the class c, made of the values -/
def mkX (P : Prog) (c : Nat) (xs : List MV) : Option MX := match P.clss[c]? with
  | some C => (match C.fields, xs with
    | [], [.str _] => some ⟨c, []⟩
    | [_], [v] => some ⟨c, [v]⟩
    | _, _ => none)
  | none => none
mutual
noncomputable def evS (T : Tab) : S → Env → Mem → RS
  | .asg t e, σ, μ => (evE T e σ μ).stm σ fun v μ => (R.calm (asgT T t v σ μ)).stm σ fun σ μ => .ok (.next σ) μ
  | .setf f e, σ, μ => (evE T e σ μ).stm σ fun v μ => (match (σ[0]? : Option (Option MV)) with
    | some (some (MV.obj c vs)) => (match T.P.clss[c]? with
      | some C => if C.fields[vs.length]? = some f then .ok (.next (σ.set 0 (some (.obj c (vs ++ [v]))))) μ else .no
      | none => .no)
    | _ => .no)
  | .expr e, σ, μ => (evE T e σ μ).stm σ fun _ μ => .ok (.next σ) μ
  | .ite c a b, σ, μ => (evE T c σ μ).stm σ fun x μ => (truR x μ).stm σ fun k μ => if k then evB T a σ μ else evB T b σ μ
  | .while c b, σ, μ => whileL (fun σ μ => (evE T c σ μ).bind truR) (evB T b) T.n σ μ
  | .for t it b, σ, μ => (evE T it σ μ).stm σ fun J μ => (itM μ J).stm σ fun J μ => forL J (bindT t) (evB T b) T.n 0 σ μ
  | .ret e, σ, μ => (evE T e σ μ).stm σ fun v μ => .ok (.ret v) μ
  | .retN, _, μ => .ok (.ret .non) μ
  | .raise c as, σ, μ => (evEs T as σ μ).stm σ fun xs μ => (match mkX T.P c xs with
    | some x => .exc x σ μ
    | none => .no)
  | .brk, σ, μ => .ok (.brk σ) μ
  | .cnt, σ, μ => .ok (.cnt σ) μ
  | .pass, σ, μ => .ok (.next σ) μ
  | .try1 b c n h, σ, μ => (match evB T b σ μ with
    | .exc x σ μ => (match isX T.P x c with
      | some true => (suite n (evB T h) x σ μ).calm
      | some false => .exc x σ μ
      | none => .no)
    | r => r)
  | .try2 b c n h c' n' h', σ, μ => (match evB T b σ μ with
    | .exc x σ μ => (match isX T.P x c with
      | some true => (suite n (evB T h) x σ μ).calm
      | some false => (match isX T.P x c' with
        | some true => (suite n' (evB T h') x σ μ).calm
        | some false => .exc x σ μ
        | none => .no)
      | none => .no)
    | r => r)
noncomputable def evB (T : Tab) : List S → Env → Mem → RS
  | [], σ, μ => .ok (.next σ) μ
  | s :: b, σ, μ => (evS T s σ μ).go fun σ μ => evB T b σ μ
end

/-! ### calls -/
def fullArgs (D : Def) (args : List MV) : List MV := args ++ D.dfl.drop (D.dfl.length - (D.np - args.length))
def slots (D : Def) (vs : List MV) : Env := vs.map some ++ List.replicate (D.ns - vs.length) none
noncomputable def runD (T : Tab) (D : Def) (args : List MV) (μ : Mem) : R MV :=
  if (fullArgs D args).length = D.np then match evB T D.body (slots D (fullArgs D args)) μ with
    | .ok (.ret v) μ => .ok v μ
    | .ok (.next _) μ => .ok .non μ
    | .exc x _ μ => .exc x μ
    | _ => .no
  else .no
noncomputable def runI (T : Tab) (c : Nat) (k : Nat) (D : Def) (args : List MV) (μ : Mem) : R MV :=
  if (fullArgs D (.obj c [] :: args)).length = D.np then match evB T D.body (slots D (fullArgs D (.obj c [] :: args))) μ with
    | .ok (.next σ) μ => (match (σ[0]? : Option (Option MV)) with
      | some (some (MV.obj c' vs)) => if c' = c ∧ vs.length = k then .ok (.obj c vs) μ else .no
      | _ => .no)
    | .exc x _ μ => .exc x μ
    | _ => .no
  else .no
/-- the calls, d deep, with n for the loops -/
noncomputable def tabD (P : Prog) (n : Nat) : Nat → Tab
  | 0 => ⟨P, n, fun _ _ _ => .no, fun _ _ _ => .no⟩
  | d + 1 => ⟨P, n, fun f args μ => (match P.defs[f]? with
      | some D => runD (tabD P n d) D args μ
      | none => .no), fun c args μ => (match P.clss[c]? with
      | some C => (match C.init.bind fun i => P.defs[i]? with
        | some D => runI (tabD P n d) c C.fields.length D args μ
        | none => .no)
      | none => .no)⟩
end Mch

/-! ## How the machine's values stand in the abstract heap -/
namespace Mch
open PySem L2

structure Glob where
  K : PySem.W.Frag
  fA : Nat → Option Addr
  mA : Nat → Option Addr := fun _ => none
  cA : Nat → Option Addr
  P : Prog

mutual
def RV (g : Glob) (φ : List Addr) (G : Hp) : MV → V → Prop
  | .non, v => v = .non
  | .bl b, v => v = .bl b
  | .int i, v => v = .int i
  | .str s, v => v = .str s
  | .tup xs, v => ∃ a vs, v = .ref a ∧ SqT g.K G a vs ∧ RVs g φ G xs vs
  | .ref i, v => ∃ a, v = .ref a ∧ φ[i]? = some a
  | .obj c xs, v => ∃ a C dx fs Cl, v = .ref a ∧ g.cA c = some C ∧ G a = some (.ins C dx fs) ∧ g.P.clss[c]? = some Cl ∧ fs.map (·.1) = Cl.fields ∧ RVs g φ G xs (fs.map (·.2))
  | .fn f, v => ∃ a, v = .ref a ∧ g.fA f = some a
  | .dic _, v => ∃ a kvs, v = .ref a ∧ G a = some (.dK kvs)
  | _, _ => False
def RVs (g : Glob) (φ : List Addr) (G : Hp) : List MV → List V → Prop
  | [], vs => vs = []
  | x :: xs, vs => ∃ v r, vs = v :: r ∧ RV g φ G x v ∧ RVs g φ G xs r
end

/-- what never changes -/
def Fix : HO → Prop
  | .tup _ => True
  | .ins _ _ _ => True
  | .frz _ _ => True
  | .xd _ => True
  | .dK _ => True
  | _ => False
def Sub (G H : Hp) : Prop := ∀ a o, G a = some o → H a = some o
structure Ext (ex : Option Addr) (φ : List Addr) (G H : Hp) (φ' : List Addr) (G' H' : Hp) : Prop where
  pre : φ <+: φ'
  keep : ∀ a o, G a = some o → Fix o → G' a = some o
  sub : Sub G' H'
  frame : ∀ a o, H a = some o → G a = none → G' a = none ∧ ∃ o', H' a = some o' ∧ (some a ≠ ex → o' = o)
section
variable {ex : Option Addr} {φ φ1 φ2 : List Addr} {G G1 G2 H H1 H2 : Hp} {g : Glob}
theorem Ext.refl (s : Sub G H) : Ext ex φ G H φ G H := ⟨List.prefix_refl _, fun _ _ h _ => h, s, fun _ o h n => ⟨n, o, h, fun _ => rfl⟩⟩
theorem Ext.trans (a : Ext ex φ G H φ1 G1 H1) (b : Ext ex φ1 G1 H1 φ2 G2 H2) : Ext ex φ G H φ2 G2 H2 where
  pre := a.pre.trans b.pre
  keep := fun c o h i => b.keep c o (a.keep c o h i) i
  sub := b.sub
  frame := fun c o h n => by
    obtain ⟨n1, o1, h1, e1⟩ := a.frame c o h n
    obtain ⟨n2, o2, h2, e2⟩ := b.frame c o1 h1 n1
    exact ⟨n2, o2, h2, fun ne => (e2 ne).trans (e1 ne)⟩
theorem Ext.weak (a : Ext none φ G H φ1 G1 H1) : Ext ex φ G H φ1 G1 H1 where
  pre := a.pre
  keep := a.keep
  sub := a.sub
  frame := fun c o h n => by
    obtain ⟨n1, o1, h1, e1⟩ := a.frame c o h n
    exact ⟨n1, o1, h1, fun _ => e1 (by simp)⟩
theorem Ext.same (a : Ext none φ G H φ1 G1 H1) {c : Addr} {o : HO} (h : H c = some o) (n : G c = none) : H1 c = some o ∧ G1 c = none := by
  obtain ⟨n1, o1, h1, e1⟩ := a.frame c o h n
  have e := e1 (by simp)
  subst e
  exact ⟨h1, n1⟩
theorem Sub.none (s : Sub G H) {a : Addr} (h : H a = none) : G a = none := by
  cases e : G a with
  | none => rfl
  | some o =>
    have := s a o e
    rw [h] at this
    cases this
theorem Sub.upd (s : Sub G H) (a : Addr) (o : HO) : Sub (upd G a o) (upd H a o) := fun b u e => by
  by_cases q : b = a
  · subst q
    rw [upd_same] at e ⊢
    exact e
  · rw [upd_ne q] at e ⊢
    exact s b u e
/-- a new object -/
theorem Ext.new (s : Sub G H) {p : Addr} {o : HO} (h : H p = Option.none) (x : List Addr) : Ext ex φ G H (φ ++ x) (upd G p o) (upd H p o) where
  pre := List.prefix_append _ _
  keep := fun a u e _ => by
    rw [upd_ne (ne_of_none e (s.none h))]
    exact e
  sub := s.upd p o
  frame := fun a u e n => by
    have ne : a ≠ p := ne_of_none e h
    rw [upd_ne ne, upd_ne ne]
    exact ⟨n, u, e, fun _ => rfl⟩
/-- an object that may change is changed -/
theorem Ext.set (s : Sub G H) {p : Addr} {o u : HO} (h : G p = some o) (hf : ¬ Fix o) : Ext ex φ G H φ (L2.upd G p u) (L2.upd H p u) where
  pre := List.prefix_refl _
  keep := fun a w e i => by
    have ne : a ≠ p := fun z => by
      subst z
      rw [h] at e
      cases e
      exact hf i
    rw [upd_ne ne]
    exact e
  sub := s.upd p u
  frame := fun a w e n => by
    have ne : a ≠ p := fun z => by
      subst z
      rw [h] at n
      cases n
    rw [upd_ne ne, upd_ne ne]
    exact ⟨n, w, e, fun _ => rfl⟩
/-! ### values stay -/
theorem pre_get {i : Nat} {a : Addr} (p : φ <+: φ1) (h : φ[i]? = some a) : φ1[i]? = some a := by
  obtain ⟨t, rfl⟩ := p
  rw [List.getElem?_append_left (List.getElem?_eq_some_iff.mp h).1]
  exact h
theorem sqT_keep {K : PySem.W.Frag} {a : Addr} {vs : List V} (k : ∀ a o, G a = some o → Fix o → G1 a = some o) (h : SqT K G a vs) : SqT K G1 a vs := by
  rcases h with (h | ⟨o, h⟩) | h
  · exact .inl (.inl (k a _ h trivial))
  · exact .inl (.inr ⟨o, k a _ h trivial⟩)
  · exact .inr h
mutual
theorem RV.mono (p : φ <+: φ1) (k : ∀ a o, G a = some o → Fix o → G1 a = some o) : ∀ (x : MV) (v : V), RV g φ G x v → RV g φ1 G1 x v
  | .non, v, h => by simpa only [RV] using h
  | .bl b, v, h => by simpa only [RV] using h
  | .int i, v, h => by simpa only [RV] using h
  | .str s, v, h => by simpa only [RV] using h
  | .tup xs, v, h => by
    simp only [RV] at h ⊢
    obtain ⟨a, vs, e, hq, r⟩ := h
    exact ⟨a, vs, e, sqT_keep k hq, RVs.mono p k xs vs r⟩
  | .ref i, v, h => by
    simp only [RV] at h ⊢
    obtain ⟨a, e, q⟩ := h
    exact ⟨a, e, pre_get p q⟩
  | .obj c xs, v, h => by
    simp only [RV] at h ⊢
    obtain ⟨a, C, dx, fs, Cl, e, hc, hg, hl, hn, r⟩ := h
    exact ⟨a, C, dx, fs, Cl, e, hc, k a _ hg trivial, hl, hn, RVs.mono p k xs _ r⟩
  | .fn f, v, h => by simpa only [RV] using h
  | .rng _ _ _, v, h => by simp only [RV] at h
  | .zp _ _, v, h => by simp only [RV] at h
  | .en _, v, h => by simp only [RV] at h
  | .exn _ _, v, h => by simp only [RV] at h
  | .dic _, v, h => by
    simp only [RV] at h ⊢
    obtain ⟨a, kvs, e, q⟩ := h
    exact ⟨a, kvs, e, k a _ q trivial⟩
theorem RVs.mono (p : φ <+: φ1) (k : ∀ a o, G a = some o → Fix o → G1 a = some o) : ∀ (xs : List MV) (vs : List V), RVs g φ G xs vs → RVs g φ1 G1 xs vs
  | [], vs, h => by simpa only [RVs] using h
  | x :: xs, vs, h => by
    simp only [RVs] at h ⊢
    obtain ⟨v, r, e, h1, h2⟩ := h
    exact ⟨v, r, e, RV.mono p k x v h1, RVs.mono p k xs r h2⟩
end
theorem RV.ext {x : MV} {v : V} (h : RV g φ G x v) (e : Ext ex φ G H φ1 G1 H1) : RV g φ1 G1 x v := RV.mono e.pre e.keep x v h
theorem RVs.ext {x : List MV} {v : List V} (h : RVs g φ G x v) (e : Ext ex φ G H φ1 G1 H1) : RVs g φ1 G1 x v := RVs.mono e.pre e.keep x v h
/-! ### rows of values -/
theorem rvs_nil : RVs g φ G [] [] := by simp only [RVs]
theorem rvs_cons {x : MV} {xs : List MV} {v : V} {vs : List V} (h : RV g φ G x v) (r : RVs g φ G xs vs) : RVs g φ G (x :: xs) (v :: vs) := by
  simp only [RVs]
  exact ⟨v, vs, rfl, h, r⟩
theorem rvs_iff : ∀ {xs : List MV} {vs : List V}, RVs g φ G xs vs ↔ xs.length = vs.length ∧ ∀ (i : Nat) x v, xs[i]? = some x → vs[i]? = some v → RV g φ G x v
  | [], vs => by
    simp only [RVs]
    constructor
    · rintro rfl
      exact ⟨rfl, fun i x v h => by simp at h⟩
    · rintro ⟨h, _⟩
      cases vs with
      | nil => rfl
      | cons _ _ => simp at h
  | x :: xs, vs => by
    simp only [RVs]
    constructor
    · rintro ⟨v, r, rfl, h1, h2⟩
      obtain ⟨l, f⟩ := rvs_iff.mp h2
      refine ⟨by simp [l], fun i y w e1 e2 => ?_⟩
      cases i with
      | zero =>
        simp at e1 e2
        subst e1 e2
        exact h1
      | succ i => exact f i y w (by simpa using e1) (by simpa using e2)
    · rintro ⟨l, f⟩
      cases vs with
      | nil => simp at l
      | cons v r => exact ⟨v, r, rfl, f 0 x v rfl rfl, rvs_iff.mpr ⟨by simpa using l, fun i y w e1 e2 => f (i + 1) y w (by simpa using e1) (by simpa using e2)⟩⟩
theorem RVs.len {xs : List MV} {vs : List V} (h : RVs g φ G xs vs) : xs.length = vs.length := (rvs_iff.mp h).1
theorem RVs.get {xs : List MV} {vs : List V} (h : RVs g φ G xs vs) {i : Nat} {x : MV} (e : xs[i]? = some x) : ∃ v, vs[i]? = some v ∧ RV g φ G x v := by
  obtain ⟨l, f⟩ := rvs_iff.mp h
  have hi := (List.getElem?_eq_some_iff.mp e).1
  have hv : vs[i]? = some (vs[i]'(by omega)) := List.getElem?_eq_getElem _
  exact ⟨_, hv, f i x _ e hv⟩
theorem RVs.none {xs : List MV} {vs : List V} (h : RVs g φ G xs vs) {i : Nat} (e : xs[i]? = Option.none) : vs.length ≤ i := by
  have := h.len
  have := List.getElem?_eq_none_iff.mp e
  omega
theorem RVs.back {xs : List MV} {vs : List V} (h : RVs g φ G xs vs) {i : Nat} {v : V} (e : vs[i]? = some v) : ∃ x, xs[i]? = some x ∧ RV g φ G x v := by
  obtain ⟨l, f⟩ := rvs_iff.mp h
  have hi := (List.getElem?_eq_some_iff.mp e).1
  have hx : xs[i]? = some (xs[i]'(by omega)) := List.getElem?_eq_getElem _
  exact ⟨_, hx, f i _ v hx e⟩
theorem RVs.append : ∀ {xs ys : List MV} {vs ws : List V}, RVs g φ G xs vs → RVs g φ G ys ws → RVs g φ G (xs ++ ys) (vs ++ ws)
  | [], _, _, _, h, k => by
    simp only [RVs] at h
    subst h
    exact k
  | x :: xs, _, _, _, h, k => by
    simp only [RVs] at h
    obtain ⟨v, r, rfl, h1, h2⟩ := h
    exact rvs_cons h1 (RVs.append h2 k)
theorem RVs.take {xs : List MV} {vs : List V} (h : RVs g φ G xs vs) (n : Nat) : RVs g φ G (xs.take n) (vs.take n) := by
  obtain ⟨l, f⟩ := rvs_iff.mp h
  refine rvs_iff.mpr ⟨by simp [l], fun i x v e1 e2 => ?_⟩
  rw [List.getElem?_take] at e1 e2
  split at e1
  · rename_i hi
    rw [if_pos hi] at e2
    exact f i x v e1 e2
  · cases e1
theorem RVs.drop {xs : List MV} {vs : List V} (h : RVs g φ G xs vs) (n : Nat) : RVs g φ G (xs.drop n) (vs.drop n) := by
  obtain ⟨l, f⟩ := rvs_iff.mp h
  refine rvs_iff.mpr ⟨by simp [l], fun i x v e1 e2 => ?_⟩
  rw [List.getElem?_drop] at e1 e2
  exact f _ x v e1 e2
theorem RVs.set {xs : List MV} {vs : List V} (h : RVs g φ G xs vs) (n : Nat) {x : MV} {v : V} (r : RV g φ G x v) : RVs g φ G (xs.set n x) (vs.set n v) := by
  obtain ⟨l, f⟩ := rvs_iff.mp h
  refine rvs_iff.mpr ⟨by simp [l], fun i y w e1 e2 => ?_⟩
  rw [List.getElem?_set] at e1 e2
  split at e1
  · rename_i q
    rw [if_pos q] at e2
    split at e1
    · rename_i q1
      rw [if_pos (by omega)] at e2
      cases e1
      cases e2
      exact r
    · cases e1
  · rename_i q
    rw [if_neg q] at e2
    exact f i y w e1 e2
theorem RVs.one {x : MV} {vs : List V} (h : RVs g φ G [x] vs) : ∃ v, vs = [v] ∧ RV g φ G x v := by
  simp only [RVs] at h
  obtain ⟨v, r, rfl, h1, rfl⟩ := h
  exact ⟨v, rfl, h1⟩
theorem RVs.two {x y : MV} {vs : List V} (h : RVs g φ G [x, y] vs) : ∃ v w, vs = [v, w] ∧ RV g φ G x v ∧ RV g φ G y w := by
  simp only [RVs] at h
  obtain ⟨v, r, rfl, h1, w, r, rfl, h2, rfl⟩ := h
  exact ⟨v, w, rfl, h1, h2⟩
/-! ### the memory -/
/-- a list that nobody changes -/
def SqF (K : PySem.W.Frag) (G : Hp) (a : Addr) (vs : List V) : Prop := (∃ o, G a = some (.frz o (.lst vs))) ∨ ∀ G1 : Hp, SqL K G1 a vs
theorem SqF.sq {K : PySem.W.Frag} {G : Hp} {a : Addr} {vs : List V} (h : SqF K G a vs) : SqL K G a vs := by
  rcases h with ⟨o, h⟩ | h
  · exact .inl (.inr ⟨o, h⟩)
  · exact h G
theorem SqF.keep {K : PySem.W.Frag} {G G1 : Hp} {a : Addr} {vs : List V} (k : ∀ a o, G a = some o → Fix o → G1 a = some o) (h : SqF K G a vs) : SqF K G1 a vs := by
  rcases h with ⟨o, h⟩ | h
  · exact .inl ⟨o, k a _ h trivial⟩
  · exact .inr h
/-- what may be written -/
def Cell.mut : Cell → Bool
  | .frz _ => false
  | _ => true
def CellR (g : Glob) (φ : List Addr) (G : Hp) (a : Addr) : Cell → Prop
  | .lst xs => ∃ vs, G a = some (.lst vs) ∧ RVs g φ G xs vs
  | .frz xs => ∃ vs, SqF g.K G a vs ∧ RVs g φ G xs vs
  | .dct _ => False
structure Rel (g : Glob) (φ : List Addr) (G : Hp) (μ : Mem) : Prop where
  len : φ.length = μ.length
  inj : ∀ (i j : Nat) a c d, φ[i]? = some a → φ[j]? = some a → μ[i]? = some c → μ[j]? = some d → c.mut = true → d.mut = true → i = j
  cell : ∀ (i : Nat) a c, φ[i]? = some a → μ[i]? = some c → CellR g φ G a c
theorem Rel.lstAt {μ : Mem} (r : Rel g φ G μ) {i : Nat} {xs : List MV} {a : Addr} (h : lstAt μ i = some xs) (e : φ[i]? = some a) : ∃ vs, SqL g.K G a vs ∧ RVs g φ G xs vs := by
  unfold Mch.lstAt at h
  split at h
  · rename_i ys q
    cases h
    obtain ⟨vs, h1, h2⟩ := r.cell i a _ e q
    exact ⟨vs, .inl (.inl h1), h2⟩
  · rename_i ys q
    cases h
    obtain ⟨vs, h1, h2⟩ := r.cell i a _ e q
    exact ⟨vs, h1.sq, h2⟩
  · cases h
theorem Rel.ref {μ : Mem} (r : Rel g φ G μ) {i : Nat} {xs : List MV} {v : V} (h : Mch.lstAt μ i = some xs) (e : RV g φ G (.ref i) v) : ∃ a vs, v = .ref a ∧ φ[i]? = some a ∧ SqL g.K G a vs ∧ RVs g φ G xs vs := by
  simp only [RV] at e
  obtain ⟨a, rfl, q⟩ := e
  obtain ⟨vs, h1, h2⟩ := r.lstAt h q
  exact ⟨a, vs, rfl, q, h1, h2⟩
theorem CellR.keep {a : Addr} {c : Cell} (p : φ <+: φ1) (k : ∀ a o, G a = some o → Fix o → G1 a = some o) (kl : ∀ vs, G a = some (.lst vs) → G1 a = some (.lst vs)) (h : CellR g φ G a c) : CellR g φ1 G1 a c := by
  cases c with
  | lst xs =>
    obtain ⟨vs, h1, h2⟩ := h
    exact ⟨vs, kl _ h1, RVs.mono p k xs vs h2⟩
  | frz xs =>
    obtain ⟨vs, h1, h2⟩ := h
    exact ⟨vs, h1.keep k, RVs.mono p k xs vs h2⟩
  | dct kvs => exact h
/-- the heap grows -/
theorem Rel.grow {μ : Mem} (r : Rel g φ G μ) (k : Sub G G1) : Rel g φ G1 μ :=
  ⟨r.len, r.inj, fun i a c e1 e2 => (r.cell i a c e1 e2).keep (List.prefix_refl _) (fun b o h _ => k b o h) fun vs h => k a _ h⟩
theorem sub_new {p : Addr} {o : HO} (h : G p = none) : Sub G (L2.upd G p o) := fun b u e => by
  rw [upd_ne (ne_of_none e h)]
  exact e
theorem Rel.alive {μ : Mem} (r : Rel g φ G μ) {i : Nat} {a : Addr} (e : φ[i]? = some a) : ∃ c, μ[i]? = some c ∧ CellR g φ G a c := by
  have hi := (List.getElem?_eq_some_iff.mp e).1
  have hv : μ[i]? = some (μ[i]'(by rw [← r.len]; exact hi)) := List.getElem?_eq_getElem _
  exact ⟨_, hv, r.cell i a _ e hv⟩
/-- what may be written is tracked -/
theorem Rel.there {μ : Mem} (r : Rel g φ G μ) {i : Nat} {a : Addr} {c : Cell} (e : φ[i]? = some a) (h : μ[i]? = some c) (m : c.mut = true) : ∃ o, G a = some o ∧ ¬ Fix o := by
  have q := r.cell i a c e h
  cases c with
  | lst xs =>
    obtain ⟨vs, h1, _⟩ := q
    exact ⟨_, h1, fun z => z⟩
  | frz xs => cases m
  | dct kvs => exact q.elim
theorem get_app {α : Type} {l : List α} {x y : α} {i : Nat} (h : (l ++ [x])[i]? = some y) : l[i]? = some y ∨ (i = l.length ∧ y = x) := by
  by_cases hi : i < l.length
  · rw [List.getElem?_append_left hi] at h
    exact .inl h
  · rw [List.getElem?_append_right (by omega)] at h
    obtain ⟨e0, rfl⟩ := List.getElem?_eq_some_iff.mp h
    have e00 : i - l.length = 0 := by simp at e0; omega
    exact .inr ⟨by omega, by simp only [e00, List.getElem_cons_zero]⟩
/-- a new list -/
theorem Rel.newL {μ : Mem} (r : Rel g φ G μ) {p : Addr} (h : G p = none) {xs : List MV} {vs : List V} (rv : RVs g φ G xs vs) : Rel g (φ ++ [p]) (L2.upd G p (.lst vs)) (μ ++ [.lst xs]) := by
  have pre : φ <+: φ ++ [p] := List.prefix_append _ _
  have k : ∀ a o, G a = some o → Fix o → L2.upd G p (.lst vs) a = some o := fun a o e _ => sub_new h a o e
  have old : ∀ {i : Nat} {a : Addr} {c : Cell}, (φ ++ [p])[i]? = some a → (μ ++ [Cell.lst xs])[i]? = some c → (φ[i]? = some a ∧ μ[i]? = some c) ∨ (i = φ.length ∧ a = p ∧ c = Cell.lst xs) := fun {i a c} e1 e2 => by
    rcases get_app e1 with e1 | ⟨q1, rfl⟩
    · rcases get_app e2 with e2 | ⟨q2, rfl⟩
      · exact .inl ⟨e1, e2⟩
      · have := (List.getElem?_eq_some_iff.mp e1).1
        have := r.len
        omega
    · rcases get_app e2 with e2 | ⟨q2, rfl⟩
      · have := (List.getElem?_eq_some_iff.mp e2).1
        have := r.len
        omega
      · exact .inr ⟨q1, rfl, rfl⟩
  refine ⟨by simp [r.len], fun i j a c d e1 e2 e3 e4 m1 m2 => ?_, fun i a c e1 e2 => ?_⟩
  · rcases old e1 e3 with ⟨p1, p2⟩ | ⟨p1, p2, p3⟩ <;> rcases old e2 e4 with ⟨q1, q2⟩ | ⟨q1, q2, q3⟩
    · exact r.inj i j a c d p1 q1 p2 q2 m1 m2
    · obtain ⟨o, ho, _⟩ := r.there p1 p2 m1
      rw [q2, h] at ho
      cases ho
    · obtain ⟨o, ho, _⟩ := r.there q1 q2 m2
      rw [p2, h] at ho
      cases ho
    · omega
  · rcases old e1 e2 with ⟨p1, p2⟩ | ⟨p1, p2, p3⟩
    · exact (r.cell i a c p1 p2).keep pre k fun ws e => sub_new h a _ e
    · rw [p2, p3]
      exact ⟨vs, upd_same, RVs.mono pre k xs vs rv⟩
theorem get_set {α : Type} {l : List α} {x y : α} {i j : Nat} (h : (l.set i x)[j]? = some y) : (j = i ∧ y = x ∧ i < l.length) ∨ (j ≠ i ∧ l[j]? = some y) := by
  rw [List.getElem?_set] at h
  split at h
  · rename_i q
    split at h
    · cases h
      exact .inl ⟨q.symm, rfl, by assumption⟩
    · cases h
  · rename_i q
    exact .inr ⟨fun z => q z.symm, h⟩
/-- a list is written anew -/
theorem Rel.setL {μ : Mem} (r : Rel g φ G μ) {i : Nat} {p : Addr} (e : φ[i]? = some p) {ys : List MV} (hm : μ[i]? = some (.lst ys)) {xs : List MV} {vs : List V} (rv : RVs g φ G xs vs) : Rel g φ (L2.upd G p (.lst vs)) (μ.set i (.lst xs)) := by
  obtain ⟨us, h, _⟩ := r.cell i p _ e hm
  have k : ∀ a o, G a = some o → Fix o → L2.upd G p (.lst vs) a = some o := fun a o q hf => by
    rw [upd_ne (fun z => by
      subst z
      rw [h] at q
      cases q
      exact hf)]
    exact q
  have back : ∀ {j : Nat} {c : Cell}, (μ.set i (.lst xs))[j]? = some c → ∃ c', μ[j]? = some c' ∧ c'.mut = c.mut := fun {j c} q => by
    rcases get_set q with ⟨rfl, rfl, _⟩ | ⟨_, q⟩
    · exact ⟨_, hm, rfl⟩
    · exact ⟨_, q, rfl⟩
  refine ⟨by simp [r.len], fun j l a c d e1 e2 e3 e4 m1 m2 => ?_, fun j a c e1 e2 => ?_⟩
  · obtain ⟨c', e3, n1⟩ := back e3
    obtain ⟨d', e4, n2⟩ := back e4
    exact r.inj j l a c' d' e1 e2 e3 e4 (n1.trans m1) (n2.trans m2)
  · rcases get_set e2 with ⟨rfl, rfl, _⟩ | ⟨ne, q⟩
    · rw [e] at e1
      cases e1
      exact ⟨vs, upd_same, RVs.mono (List.prefix_refl _) k xs vs rv⟩
    · cases c with
      | lst zs =>
        have na : a ≠ p := fun z => by
          subst z
          exact ne (r.inj j i a _ _ e1 e q hm rfl rfl)
        exact (r.cell j a _ e1 q).keep (List.prefix_refl _) k fun ws w => by
          rw [upd_ne na]
          exact w
      | frz zs =>
        obtain ⟨ws, w1, w2⟩ := r.cell j a _ e1 q
        exact ⟨ws, w1.keep k, RVs.mono (List.prefix_refl _) k zs ws w2⟩
      | dct kvs => exact (r.cell j a _ e1 q).elim
end

/-! ### the judgement: what a run's end gives -/
/-- an exception in the air: its class, its own dict -/
def RX (g : Glob) (φ : List Addr) (G H : Hp) (x : MX) (cls : Value) (dd : Option Addr) : Prop :=
  ∃ C Cl, g.cA x.c = some C ∧ g.P.clss[x.c]? = some Cl ∧ cls = .ref C ∧ ((x.vs = [] ∧ Cl.fields = [] ∧ dd = none) ∨ ∃ d fs, dd = some d ∧ H d = some (.xd fs) ∧ G d = none ∧ fs.map (·.1) = Cl.fields ∧ RVs g φ G x.vs (fs.map (·.2)))
abbrev KM (α : Type) := α → Mem → List Addr → Hp → Hp → Prop
def Good (g : Glob) (W : WX) (σ : L2.St) (φ : List Addr) (G H : Hp) {α : Type} (r : R α) (k : KM α) : Prop := match r with
  | .ok a μ => ∀ φ1 G1 H1, Ext none φ G H φ1 G1 H1 → Rel g φ1 G1 μ → k a μ φ1 G1 H1
  | .exc x μ => ∀ φ1 G1 H1, Ext none φ G H φ1 G1 H1 → Rel g φ1 G1 μ → ∀ cls dd, RX g φ1 G1 H1 x cls dd → W cls dd σ H1
  | .no => False
section
variable {g : Glob} {W : WX} {σ : L2.St} {φ φ1 : List Addr} {G G1 H H1 : Hp} {α β : Type} {r : R α} {k k' : KM α}
theorem Good.ext (h : Good g W σ φ G H r k) (e : Ext none φ G H φ1 G1 H1) : Good g W σ φ1 G1 H1 r k := by
  cases r with
  | ok a μ => exact fun φ2 G2 H2 e2 r2 => h φ2 G2 H2 (e.trans e2) r2
  | exc x μ => exact fun φ2 G2 H2 e2 r2 => h φ2 G2 H2 (e.trans e2) r2
  | no => exact h
theorem Good.imp (h : Good g W σ φ G H r k) (f : ∀ a μ φ1 G1 H1, Ext none φ G H φ1 G1 H1 → Rel g φ1 G1 μ → k a μ φ1 G1 H1 → k' a μ φ1 G1 H1) : Good g W σ φ G H r k' := by
  cases r with
  | ok a μ => exact fun φ2 G2 H2 e2 r2 => f _ _ _ _ _ e2 r2 (h φ2 G2 H2 e2 r2)
  | exc x μ => exact h
  | no => exact h
theorem Good.imp2 (h : Good g W σ φ G H r k) (f : ∀ a μ φ1 G1 H1, r = .ok a μ → Ext none φ G H φ1 G1 H1 → Rel g φ1 G1 μ → k a μ φ1 G1 H1 → k' a μ φ1 G1 H1) : Good g W σ φ G H r k' := by
  cases r with
  | ok a μ => exact fun φ2 G2 H2 e2 r2 => f _ _ _ _ _ rfl e2 r2 (h φ2 G2 H2 e2 r2)
  | exc x μ => exact h
  | no => exact h
theorem Good.bind {k : KM β} {f : α → Mem → R β} (h : Good g W σ φ G H (r.bind f) k) : Good g W σ φ G H r fun a μ φ1 G1 H1 => Good g W σ φ1 G1 H1 (f a μ) k := by
  cases r with
  | ok a μ => exact fun φ1 G1 H1 e _ => Good.ext (r := f a μ) h e
  | exc x μ => exact h
  | no => exact h
theorem Good.opt {o : Option α} {μ : Mem} (h : Good g W σ φ G H (R.opt o μ) k) (s : Sub G H) (r : Rel g φ G μ) : ∃ a, o = some a ∧ k a μ φ G H := by
  cases o with
  | none => exact h.elim
  | some a => exact ⟨a, rfl, h φ G H (Ext.refl s) r⟩
theorem Good.here {a : α} {μ : Mem} (h : Good g W σ φ G H (.ok a μ) k) (s : Sub G H) (r : Rel g φ G μ) : k a μ φ G H := h φ G H (Ext.refl s) r
end
/-- where one stands: in a def | in an __init__ that fills the instance at x | in a block of such | in an except suite: the slot i holds the exception at a -/
inductive Md where
  | no | ini (x : Addr) | hid0 | exc (i : Nat) (a : Addr) (cls : Value) (dd : Option Addr)
def Md.ex : Md → Nat → Bool
  | .no, _ => false
  | .ini _, i => i == 0
  | .hid0, i => i == 0
  | .exc j _ _ _, i => i == j
def Md.adr : Md → Option Addr
  | .ini x => some x
  | _ => none
/-- within a comprehension -/
def Md.blk : Md → Md
  | .ini _ => .hid0
  | .exc _ _ _ _ => .no
  | m => m
/-- the names' values -/
def REnv (g : Glob) (φ : List Addr) (G : Hp) (md : Md) (σm : Env) (σ : L2.St) : Prop := σm.length = σ.length ∧ ∀ (i : Nat) v, σm[i]? = some (some v) → md.ex i = false → ∃ w, σ[i]? = some (some w) ∧ RV g φ G v w
/-- what stands beside: the instance that is filled; the exception that is handled -/
def SelfI (g : Glob) (φ : List Addr) (G H : Hp) (md : Md) (σm : Env) (σ : L2.St) : Prop := match md with
  | .ini x => ∃ C dx fs c vs Cl, σ[0]? = some (some (.ref x)) ∧ H x = some (.ins C dx fs) ∧ G x = none ∧ σm[0]? = some (some (.obj c vs)) ∧
      g.cA c = some C ∧ g.P.clss[c]? = some Cl ∧ fs.map (·.1) = Cl.fields.take vs.length ∧ RVs g φ G vs (fs.map (·.2))
  | .exc i a cls dd => ∃ c vs, σ[i]? = some (some (.ref a)) ∧ σm[i]? = some (some (.exn c vs)) ∧ RX g φ G H ⟨c, vs⟩ cls dd
  | _ => True
structure RSt (g : Glob) (φ : List Addr) (G H : Hp) (md : Md) (σm : Env) (σ : L2.St) : Prop where
  env : REnv g φ G md σm σ
  self : SelfI g φ G H md σm σ
theorem REnv.ext {g : Glob} {ex : Option Addr} {φ φ1 : List Addr} {G G1 H H1 : Hp} {md : Md} {σm : Env} {σ : L2.St} (h : REnv g φ G md σm σ) (e : Ext ex φ G H φ1 G1 H1) : REnv g φ1 G1 md σm σ :=
  ⟨h.1, fun i v e1 e2 => let ⟨w, q, r⟩ := h.2 i v e1 e2; ⟨w, q, r.ext e⟩⟩
theorem REnv.set {g : Glob} {φ : List Addr} {G : Hp} {md : Md} {σm : Env} {σ : L2.St} (h : REnv g φ G md σm σ) {i : Nat} {v : MV} {w : V} (r : RV g φ G v w) : REnv g φ G md (σm.set i (some v)) (σ.set i (some w)) := by
  refine ⟨by simp [h.1], fun j u e1 e2 => ?_⟩
  rw [List.getElem?_set] at e1 ⊢
  split at e1
  · rename_i q
    rw [if_pos q]
    split at e1
    · cases e1
      exact ⟨w, by rw [if_pos (by rw [← h.1]; assumption)], r⟩
    · cases e1
  · rename_i q
    rw [if_neg q]
    exact h.2 j u e1 e2
/-- behind an expression -/
theorem RSt.ext {g : Glob} {φ φ1 : List Addr} {G G1 H H1 : Hp} {md : Md} {σm : Env} {σ : L2.St} (h : RSt g φ G H md σm σ) (e : Ext none φ G H φ1 G1 H1) : RSt g φ1 G1 H1 md σm σ := by
  refine ⟨h.env.ext e, ?_⟩
  have hs := h.self
  cases md with
  | no => trivial
  | hid0 => trivial
  | ini x =>
    obtain ⟨C, dx, fs, c, vs, Cl, h1, h3, h4, h5, h6, h7, h8, h9⟩ := hs
    obtain ⟨q1, q2⟩ := e.same h3 h4
    exact ⟨C, dx, fs, c, vs, Cl, h1, q1, q2, h5, h6, h7, h8, h9.ext e⟩
  | exc i a cls dd =>
    obtain ⟨c, vs, h1, h2, C, Cl, h3, h4, h5, h6⟩ := hs
    refine ⟨c, vs, h1, h2, C, Cl, h3, h4, h5, ?_⟩
    rcases h6 with h6 | ⟨d, fs, h7, h8, h9, h10, h11⟩
    · exact .inl h6
    · obtain ⟨q1, q2⟩ := e.same h8 h9
      exact .inr ⟨d, fs, h7, q1, q2, h10, h11.ext e⟩
theorem Md.blk_ex {md : Md} {i : Nat} (h : md.blk.ex i = false) (hb : ∀ j a c d, md ≠ .exc j a c d) : md.ex i = false := by
  cases md with
  | exc j a c d => exact absurd rfl (hb j a c d)
  | _ => exact h
theorem REnv.blk {g : Glob} {φ : List Addr} {G : Hp} {md : Md} {σm : Env} {σ : L2.St} (h : REnv g φ G md σm σ) (hb : ∀ j a c d, md ≠ .exc j a c d) : REnv g φ G md.blk σm σ :=
  ⟨h.1, fun i v e1 e2 => h.2 i v e1 (Md.blk_ex e2 hb)⟩
/-- a block's names alone -/
theorem RSt.of {g : Glob} {φ : List Addr} {G H : Hp} {md : Md} {σm : Env} {σ : L2.St} (h : REnv g φ G md.blk σm σ) : RSt g φ G H md.blk σm σ :=
  ⟨h, by cases md <;> trivial⟩
theorem RSt.blk {g : Glob} {φ : List Addr} {G H : Hp} {md : Md} {σm : Env} {σ : L2.St} (h : REnv g φ G md σm σ) (hb : ∀ j a c d, md ≠ .exc j a c d) : RSt g φ G H md.blk σm σ :=
  ⟨⟨h.1, fun i v e1 e2 => h.2 i v e1 (Md.blk_ex e2 hb)⟩, by cases md with
    | exc j a c d => exact absurd rfl (hb j a c d)
    | _ => trivial⟩
theorem RSt.set {g : Glob} {φ : List Addr} {G H : Hp} {md : Md} {σm : Env} {σ : L2.St} (h : RSt g φ G H md σm σ) {i : Nat} {v : MV} {w : V} (r : RV g φ G v w) (hi : md.ex i = false) : RSt g φ G H md (σm.set i (some v)) (σ.set i (some w)) := by
  refine ⟨h.env.set r, ?_⟩
  have hs := h.self
  cases md with
  | no => trivial
  | hid0 => trivial
  | ini x =>
    have ne : i ≠ 0 := by simpa [Md.ex] using hi
    obtain ⟨C, dx, fs, c, vs, Cl, h1, h3, h4, h5, h6⟩ := hs
    exact ⟨C, dx, fs, c, vs, Cl, by rw [List.getElem?_set_ne ne]; exact h1, h3, h4, by rw [List.getElem?_set_ne ne]; exact h5, h6⟩
  | exc j a cls dd =>
    have ne : i ≠ j := by simpa [Md.ex] using hi
    obtain ⟨c, vs, h1, h2, h3⟩ := hs
    exact ⟨c, vs, by rw [List.getElem?_set_ne ne]; exact h1, by rw [List.getElem?_set_ne ne]; exact h2, h3⟩
abbrev kE (g : Glob) (Q : VK) : KM MV := fun v _ φ1 G1 H1 => ∀ w, RV g φ1 G1 v w → Q w H1
abbrev kEs (g : Glob) (Q : List V → Hp → Prop) : KM (List MV) := fun v _ φ1 G1 H1 => ∀ w, RVs g φ1 G1 v w → Q w H1
/-- the reading of an expression -/
def tE (g : Glob) (T : Tab) (W : WX) (md : Md) (e : E) : TE := fun σ H Q => ∃ φ G μ σm, Sub G H ∧ Rel g φ G μ ∧ RSt g φ G H md σm σ ∧ Good g W σ φ G H (evE T e σm μ) (kE g Q)
def tEs (g : Glob) (T : Tab) (W : WX) (md : Md) (es : List E) : TA := fun σ H Q => ∃ φ G μ σm, Sub G H ∧ Rel g φ G μ ∧ RSt g φ G H md σm σ ∧ Good g W σ φ G H (evEs T es σm μ) (kEs g Q)
def tT (g : Glob) (T : Tab) (W : WX) (md : Md) (e : E) : TT := fun σ H Q => ∃ φ G μ σm, Sub G H ∧ Rel g φ G μ ∧ RSt g φ G H md σm σ ∧ Good g W σ φ G H ((evE T e σm μ).bind truR) fun b _ _ _ H1 => Q b H1
end Mch

/-! ## Each operation of the machine is one of the model's -/
namespace Mch
open PySem PySem.Spec PyProof.Rows L2
section
variable {K : PySem.W.Frag} {G H : Hp} {a : Addr} {vs : List V}
theorem rd_sub {u : HO} (s : Sub G H) (h : Rd G a u) : Rd H a u := by
  rcases h with h | ⟨o, h⟩
  · exact .inl (s a _ h)
  · exact .inr ⟨o, s a _ h⟩
theorem sqT_sub (s : Sub G H) (h : SqT K G a vs) : SqT K H a vs := by
  rcases h with h | h
  · exact .inl (rd_sub s h)
  · exact .inr h
theorem sqL_sub (s : Sub G H) (h : SqL K G a vs) : SqL K H a vs := by
  rcases h with h | h
  · exact .inl (rd_sub s h)
  · exact .inr h
end
section
variable {g : Glob} {φ : List Addr} {G H : Hp} {μ : Mem} {x y : MV} {v w : V}
theorem empty_eq {xs : List MV} {vs : List V} (h : RVs g φ G xs vs) : xs.isEmpty = vs.isEmpty := by
  have l := h.len
  cases xs <;> cases vs <;> simp at l ⊢
theorem rv_non {x : MV} (h : RV g φ G x .non) : x = .non := by
  cases x <;> first | rfl | (simp [RV] at h)
/-! ### truth -/
theorem tru_of {k : Bool} (h : truM μ x = some k) (rv : RV g φ G x v) (r : Rel g φ G μ) (s : Sub G H) : TruV g.K v H k := by
  cases x with
  | non => simp only [RV] at rv; subst rv; simp only [truM, Option.some.injEq] at h; exact h.symm
  | bl b => simp only [RV] at rv; subst rv; simp only [truM, Option.some.injEq] at h; exact h.symm
  | int i => simp only [RV] at rv; subst rv; simp only [truM, Option.some.injEq] at h; exact h.symm
  | str z =>
    simp only [RV] at rv
    subst rv
    simp only [truM] at h
    split at h
    · exact ⟨by assumption, (Option.some.inj h).symm⟩
    · cases h
  | tup xs =>
    simp only [RV] at rv
    obtain ⟨a, vs, rfl, hq, hr⟩ := rv
    simp only [truM, Option.some.injEq] at h
    exact .inr (.inl ⟨vs, sqT_sub s hq, by rw [← empty_eq hr]; exact h.symm⟩)
  | ref i =>
    simp only [truM] at h
    cases e : lstAt μ i with
    | none => rw [e] at h; cases h
    | some xs =>
      rw [e] at h
      simp only [Option.map_some, Option.some.injEq] at h
      obtain ⟨a, vs, rfl, _, hq, hr⟩ := r.ref e rv
      exact .inl ⟨vs, sqL_sub s hq, by rw [← empty_eq hr]; exact h.symm⟩
  | obj _ _ => cases h
  | fn _ => cases h
  | rng _ _ _ => cases h
  | dic _ => cases h
  | zp _ _ => cases h
  | en _ => cases h
  | exn _ _ => cases h
/-! ### data -/
theorem toDs_ok {f : MV → Option PyData} {P : V → PyData → Prop} {K : PySem.W.Frag} {n : Nat} (hf : ∀ x d v, f x = some d → RV g φ G x v → Dp K H v d ∧ d.canLay0 = true ∧ d.depth ≤ n) : ∀ (xs : List MV) (ds : List PyData) (vs : List V), toDs f xs = some ds → RVs g φ G xs vs → DpAll K H vs ds ∧ PyData.canLayAll0 ds = true ∧ PyData.depthAll ds ≤ n
  | [], ds, vs, h, r => by
    simp only [toDs, Option.some.injEq] at h
    simp only [RVs] at r
    subst h r
    exact ⟨.nil, rfl, Nat.zero_le _⟩
  | x :: xs, ds, vs, h, r => by
    simp only [RVs] at r
    obtain ⟨v, r1, rfl, hv, hr⟩ := r
    simp only [toDs] at h
    split at h
    · rename_i d ds' e1 e2
      cases h
      obtain ⟨a1, a2, a3⟩ := hf x d v e1 hv
      obtain ⟨b1, b2, b3⟩ := toDs_ok (P := P) hf xs ds' r1 e2 hr
      refine ⟨.cons a1 b1, ?_, ?_⟩
      · simp only [PyData.canLayAll0, a2, b2, Bool.and_self]
      · simp only [PyData.depthAll]
        exact Nat.max_le.mpr ⟨a3, b3⟩
    · cases h
theorem toD_ok (r : Rel g φ G μ) (s : Sub G H) : ∀ (n : Nat) (x : MV) (d : PyData) (v : V), toD μ n x = some d → RV g φ G x v → Dp g.K H v d ∧ d.canLay0 = true ∧ d.depth ≤ n
  | 0, _, _, _, h, _ => by simp only [toD] at h; cases h
  | n + 1, x, d, v, h, rv => by
    cases x with
    | non => simp only [toD, Option.some.injEq] at h; simp only [RV] at rv; subst h rv; exact ⟨.non, rfl, Nat.zero_le _⟩
    | bl b => simp only [toD, Option.some.injEq] at h; simp only [RV] at rv; subst h rv; exact ⟨.bl b, rfl, Nat.zero_le _⟩
    | int b => simp only [toD, Option.some.injEq] at h; simp only [RV] at rv; subst h rv; exact ⟨.int b, rfl, Nat.zero_le _⟩
    | str z =>
      simp only [toD] at h
      simp only [RV] at rv
      subst rv
      split at h
      · rename_i hz
        cases h
        exact ⟨.str z, by simp only [PyData.canLay0, hz], Nat.zero_le _⟩
      · cases h
    | tup xs =>
      simp only [toD] at h
      simp only [RV] at rv
      obtain ⟨a, vs, rfl, hq, hr⟩ := rv
      cases e : toDs (toD μ n) xs with
      | none => rw [e] at h; cases h
      | some ds =>
        rw [e] at h
        cases h
        obtain ⟨b1, b2, b3⟩ := toDs_ok (P := fun _ _ => True) (toD_ok r s n) xs ds vs e hr
        exact ⟨.tup (sqT_sub s hq) b1, by simpa only [PyData.canLay0] using b2, by simp only [PyData.depth]; omega⟩
    | ref i =>
      simp only [toD] at h
      cases e0 : lstAt μ i with
      | none => rw [e0] at h; cases h
      | some xs =>
        rw [e0] at h
        obtain ⟨a, vs, rfl, _, hq, hr⟩ := r.ref e0 rv
        cases e : toDs (toD μ n) xs with
        | none => simp only [e] at h; cases h
        | some ds =>
          simp only [e] at h
          cases h
          obtain ⟨b1, b2, b3⟩ := toDs_ok (P := fun _ _ => True) (toD_ok r s n) xs ds vs e hr
          exact ⟨.lst (sqL_sub s hq) b1, by simpa only [PyData.canLay0] using b2, by simp only [PyData.depth]; omega⟩
    | obj _ _ => simp only [toD] at h; cases h
    | fn _ => simp only [toD] at h; cases h
    | rng _ _ _ => simp only [toD] at h; cases h
    | zp _ _ => simp only [toD] at h; cases h
    | en _ => simp only [toD] at h; cases h
    | exn _ _ => simp only [toD] at h; cases h
    | dic _ => simp only [toD] at h; cases h
theorem eqM_ok {k : Bool} (r : Rel g φ G μ) (s : Sub G H) (h : eqM μ x y = some k) (rx : RV g φ G x v) (ry : RV g φ G y w) :
    ∃ d e, Dp g.K H v d ∧ Dp g.K H w e ∧ SeqAt.shaped d = true ∧ SeqAt.shaped e = true ∧ k = PyData.eqv d e := by
  unfold eqM at h
  split at h
  · rename_i d e e1 e2
    obtain ⟨a1, a2, a3⟩ := toD_ok r s 40 x d v e1 rx
    obtain ⟨b1, b2, b3⟩ := toD_ok r s 40 y e w e2 ry
    refine ⟨d, e, a1, b1, ?_, ?_, (Option.some.inj h).symm⟩
    · exact Bool.and_eq_true_iff.mpr ⟨a2, decide_eq_true (by omega)⟩
    · exact Bool.and_eq_true_iff.mpr ⟨b2, decide_eq_true (by omega)⟩
  · cases h
/-! ### flat values -/
theorem flat_of (h : flatM x = true) (rx : RV g φ G x v) : flatV v = true := by
  cases x <;> simp only [flatM] at h <;> (try cases h) <;> simp only [RV] at rx <;> subst rx <;> rfl
theorem flats_of : ∀ {xs : List MV} {vs : List V}, xs.all flatM = true → RVs g φ G xs vs → vs.all flatV = true
  | [], vs, _, r => by simp only [RVs] at r; subst r; rfl
  | x :: xs, vs, h, r => by
    simp only [RVs] at r
    obtain ⟨v, r1, rfl, hv, hr⟩ := r
    rw [List.all_cons, Bool.and_eq_true] at h ⊢
    exact ⟨flat_of h.1 hv, flats_of h.2 hr⟩
theorem eqF_of (h : flatM x = true) (h' : flatM y = true) (rx : RV g φ G x v) (ry : RV g φ G y w) : eqF x y = eqV v w := by
  cases x <;> simp only [flatM] at h <;> (try cases h) <;> simp only [RV] at rx <;> subst rx <;>
    (cases y <;> simp only [flatM] at h' <;> (try cases h') <;> simp only [RV] at ry <;> subst ry <;> rfl)
theorem inF_of : ∀ {xs : List MV} {vs : List V}, flatM x = true → RV g φ G x v → xs.all flatM = true → RVs g φ G xs vs → (xs.any fun z => eqF z x) = inV v vs
  | [], vs, _, _, _, r => by simp only [RVs] at r; subst r; rfl
  | z :: xs, vs, h, rx, h', r => by
    simp only [RVs] at r
    obtain ⟨u, r1, rfl, hv, hr⟩ := r
    rw [List.all_cons, Bool.and_eq_true] at h'
    have ih := inF_of h rx h'.2 hr
    unfold inV at ih ⊢
    rw [List.any_cons, List.any_cons, ih, eqF_of h'.1 h hv rx]
theorem inM_ok {k : Bool} (r : Rel g φ G μ) (s : Sub G H) (h : inM μ x y = some k) (rx : RV g φ G x v) (ry : RV g φ G y w) :
    ∃ p vs, w = .ref p ∧ (SqL g.K H p vs ∨ SqT g.K H p vs) ∧ flatV v = true ∧ vs.all flatV = true ∧ k = inV v vs := by
  unfold inM at h
  split at h
  · rename_i xs e
    split at h
    · rename_i hf
      rw [Bool.and_eq_true] at hf
      cases h
      cases y with
      | tup ys =>
        simp only [Option.some.injEq] at e
        subst e
        simp only [RV] at ry
        obtain ⟨p, vs, rfl, hq, hr⟩ := ry
        exact ⟨p, vs, rfl, .inr (sqT_sub s hq), flat_of hf.1 rx, flats_of hf.2 hr, inF_of hf.1 rx hf.2 hr⟩
      | ref i =>
        obtain ⟨p, vs, rfl, _, hq, hr⟩ := r.ref e ry
        exact ⟨p, vs, rfl, .inl (sqL_sub s hq), flat_of hf.1 rx, flats_of hf.2 hr, inF_of hf.1 rx hf.2 hr⟩
      | _ => cases e
    · cases h
  · cases h
end
/-! ### the model's operations -/
section
variable {X : Cx} {pins : List (Addr × Obj)} {s : Shared} {σ : L2.St} {g : Glob} {φ : List Addr} {G H : Hp} {μ : Mem} {x y : MV} {v w : V} {a b : Value} {W : WX} {Q : VK}
theorem rep_size {a : Array Nat} : ∀ (n : Nat) (acc : Array Nat), ((List.replicate n a).foldl (· ++ ·) acc).size = acc.size + n * a.size
  | 0, acc => by simp
  | n + 1, acc => by
    rw [List.replicate_succ, List.foldl_cons, rep_size n, Array.size_append, Nat.succ_mul]
    omega
theorem cmp_ok {op : CmpOp} {k : Bool} (hK : g.K = X.K) (hu : X.A.units + 64 < cLine) (I : Inv X pins σ H s) (r : Rel g φ G μ) (sb : Sub G H) (h : cmpM μ op x y = some k) (rx : RV g φ G x v) (ry : RV g φ G y w) (ra : RelV v a) (rb : RelV w b) (q : Q (.bl k) H) :
    wpAny (model X.prog X.w) X.A (compareOp op a b) (EP X pins σ Q) X.xe s := by
  have both : op = .Eq ∨ op = .NotEq ∨ op = .In ∨ op = .NotIn ∨ (op ≠ .Eq ∧ op ≠ .NotEq ∧ op ≠ .In ∧ op ≠ .NotIn) := by cases op <;> simp
  rcases both with rfl | rfl | rfl | rfl | ⟨n1, n2, n3, n4⟩
  · have h : eqM μ x y = some k := h
    obtain ⟨d, e, h1, h2, h3, h4, rfl⟩ := eqM_ok r sb h rx ry
    rw [hK] at h1 h2
    exact op_eqD hu pins s σ H v w a b Q I ra rb ⟨d, e, h1, h2, h3, h4, q⟩
  · have h : (eqM μ x y).map (!·) = some k := h
    cases e0 : eqM μ x y with
    | none => rw [e0] at h; cases h
    | some k' =>
      rw [e0] at h
      cases h
      obtain ⟨d, e, h1, h2, h3, h4, rfl⟩ := eqM_ok r sb e0 rx ry
      rw [hK] at h1 h2
      exact op_neD hu pins s σ H v w a b Q I ra rb ⟨d, e, h1, h2, h3, h4, q⟩
  · have hs : (∃ z, y = .str z ∧ inS x z = some k) ∨ inM μ x y = some k := by
      have h : inA μ x y = some k := h
      cases y <;> first
        | exact .inl ⟨_, rfl, h⟩
        | exact .inr h
    rcases hs with ⟨z, rfl, h9⟩ | h
    · unfold inS at h9
      split at h9
      · rename_i s1
        split at h9
        · rename_i c hc
          cases h9
          simp only [RV] at rx ry
          subst rx ry
          have e1 : s1 = ⟨#[c]⟩ := by
            obtain ⟨⟨l⟩⟩ := s1
            have : l = [c] := hc
            subst this
            rfl
          subst e1
          exact op_in_sign pins s σ H _ _ a b Q I ra rb ⟨c, z, rfl, rfl, q⟩
        · cases h9
      · cases h9
    obtain ⟨p, vs, rfl, h1, h2, h3, rfl⟩ := inM_ok r sb h rx ry
    rw [hK] at h1
    exact op_in_seq pins s σ H v _ a b Q I ra rb ⟨p, vs, rfl, h1, h2, h3, q⟩
  · have h : (inM μ x y).map (!·) = some k := h
    cases e0 : inM μ x y with
    | none => rw [e0] at h; cases h
    | some k' =>
      rw [e0] at h
      cases h
      obtain ⟨p, vs, rfl, h1, h2, h3, rfl⟩ := inM_ok r sb e0 rx ry
      rw [hK] at h1
      exact op_notIn_seq pins s σ H v _ a b Q I ra rb ⟨p, vs, rfl, h1, h2, h3, q⟩
  · unfold cmpM at h
    split at h
    · exact absurd rfl n1
    · exact absurd rfl n2
    · simp only [RV] at rx ry
      subst rx ry
      cases h
      exact op_lt pins s σ H _ _ a b Q I ra rb ⟨_, _, rfl, rfl, q⟩
    · simp only [RV] at rx ry
      subst rx ry
      cases h
      exact op_le pins s σ H _ _ a b Q I ra rb ⟨_, _, rfl, rfl, q⟩
    · simp only [RV] at rx ry
      subst rx ry
      cases h
      exact op_gt pins s σ H _ _ a b Q I ra rb ⟨_, _, rfl, rfl, q⟩
    · simp only [RV] at rx ry
      subst rx ry
      cases h
      exact op_ge pins s σ H _ _ a b Q I ra rb ⟨_, _, rfl, rfl, q⟩
    · simp only [RV] at rx ry
      subst rx ry
      cases h
      exact op_le_str pins s σ H _ _ a b Q I ra rb ⟨_, _, rfl, rfl, q⟩
    · simp only [RV] at rx ry
      subst rx ry
      cases h
      exact op_lt_str pins s σ H _ _ a b Q I ra rb ⟨_, _, rfl, rfl, q⟩
    · simp only [RV] at rx ry
      subst rx ry
      cases h
      exact op_isN pins s σ H _ _ a b Q I ra rb ⟨rfl, q⟩
    · rename_i z hz
      simp only [RV] at ry
      subst ry
      cases h
      have hv : v ≠ .non := fun e => hz (rv_non (e ▸ rx))
      refine op_isN pins s σ H _ _ a b Q I ra rb ⟨rfl, ?_⟩
      rw [decide_eq_false hv]
      exact q
    · simp only [RV] at rx ry
      subst rx ry
      cases h
      exact op_notN pins s σ H _ _ a b Q I ra rb ⟨rfl, q⟩
    · rename_i z hz
      simp only [RV] at ry
      subst ry
      cases h
      have hv : v ≠ .non := fun e => hz (rv_non (e ▸ rx))
      refine op_notN pins s σ H _ _ a b Q I ra rb ⟨rfl, ?_⟩
      rw [decide_eq_false hv]
      exact q
    · exact absurd rfl n3
    · exact absurd rfl n4
    · cases h
/-- a new tuple -/
theorem newT_ok {xs : List MV} {vs : List V} (h : Good g W σ φ G H (newT xs μ) (kE g Q)) (r : Rel g φ G μ) (sb : Sub G H) (rv : RVs g φ G xs vs) : xs.length ≤ sizeLine ∧ ∀ p, H p = none → Q (.ref p) (upd H p (.tup vs)) := by
  unfold newT at h
  split at h
  · rename_i hz
    refine ⟨hz, fun p hp => ?_⟩
    have hG := sb.none hp
    have e : Ext none φ G H φ (upd G p (.tup vs)) (upd H p (.tup vs)) := by
      have := Ext.new (ex := none) (φ := φ) sb (o := .tup vs) hp []
      rwa [List.append_nil] at this
    refine h φ _ _ e (r.grow (sub_new hG)) _ ?_
    simp only [RV]
    exact ⟨p, vs, rfl, SqT.of upd_same, rv.ext e⟩
  · exact h.elim
/-- a tuple that is there -/
theorem oldT_ok {xs : List MV} {vs : List V} {p : Addr} (h : Good g W σ φ G H (newT xs μ) (kE g Q)) (r : Rel g φ G μ) (sb : Sub G H) (rv : RVs g φ G xs vs) (hp : SqT g.K G p vs) : Q (.ref p) H := by
  unfold newT at h
  split at h
  · refine h φ G H (Ext.refl sb) r _ ?_
    simp only [RV]
    exact ⟨p, vs, rfl, hp, rv⟩
  · exact h.elim
/-- a new list -/
theorem newL_ok {xs : List MV} {vs : List V} (h : Good g W σ φ G H (newL xs μ) (kE g Q)) (r : Rel g φ G μ) (sb : Sub G H) (rv : RVs g φ G xs vs) : xs.length ≤ sizeLine ∧ ∀ p, H p = none → Q (.ref p) (upd H p (.lst vs)) := by
  unfold newL at h
  split at h
  · rename_i hz
    refine ⟨hz, fun p hp => ?_⟩
    have hG := sb.none hp
    refine h (φ ++ [p]) _ _ (Ext.new sb hp [p]) (r.newL hG rv) _ ?_
    simp only [RV]
    exact ⟨p, rfl, by rw [← r.len, List.getElem?_append_right (Nat.le_refl _), Nat.sub_self]; rfl⟩
  · exact h.elim
theorem mulOk_of {i j : Int} (h : mulOk i j = true) : CMul i j ∨ CMulW i j := by
  unfold mulOk at h
  rw [Bool.or_eq_true, Bool.or_eq_true] at h
  rcases h with (h | h) | h
  · rw [Bool.and_eq_true] at h
    exact .inl (.inl ⟨of_decide_eq_true h.1, of_decide_eq_true h.2⟩)
  · rw [Bool.and_eq_true] at h
    exact .inl (.inr ⟨of_decide_eq_true h.1, of_decide_eq_true h.2⟩)
  · exact .inr (show _ < _ from of_decide_eq_true h)
theorem RVs.rep {xs : List MV} {vs : List V} (h : RVs g φ G xs vs) : ∀ n : Nat, RVs g φ G (List.replicate n xs).flatten (List.replicate n vs).flatten
  | 0 => rvs_nil
  | n + 1 => by
    rw [List.replicate_succ, List.replicate_succ, List.flatten_cons, List.flatten_cons]
    exact h.append (RVs.rep h n)
theorem bin_ok {op : Operator} (hK : g.K = X.K) (I : Inv X pins σ H s) (r : Rel g φ G μ) (sb : Sub G H) (h : Good g W σ φ G H (binM μ op x y) (kE g Q)) (rx : RV g φ G x v) (ry : RV g φ G y w) (ra : RelV v a) (rb : RelV w b) :
    wpAny (model X.prog X.w) X.A (binaryOp op a b) (EP X pins σ Q) X.xe s := by
  unfold binM at h
  split at h
  · -- int + int
    simp only [RV] at rx ry
    subst rx ry
    exact op_add pins s σ H _ _ a b Q I ra rb ⟨_, _, rfl, rfl, h.here sb r _ (by simp only [RV])⟩
  · simp only [RV] at rx ry
    subst rx ry
    split at h
    · exact op_add_str pins s σ H _ _ a b Q I ra rb ⟨_, _, rfl, rfl, by assumption, h.here sb r _ (by simp only [RV])⟩
    · exact h.elim
  · -- tuples
    simp only [RV] at rx ry
    obtain ⟨p, vs, rfl, hp, hv⟩ := rx
    obtain ⟨q, ws, rfl, hq, hw⟩ := ry
    have rv := hv.append hw
    obtain ⟨hz, hnew⟩ := newT_ok h r sb rv
    rw [List.length_append, hv.len, hw.len] at hz
    rw [hK] at hp hq
    refine op_catA pins s σ H _ _ a b Q I ra rb ⟨p, q, vs, ws, rfl, rfl, sqT_sub sb hp, sqT_sub sb hq, hz, fun e => ?_, fun e1 e2 => ?_, fun _ _ => hnew⟩
    · refine oldT_ok h r sb rv ?_
      rw [hK, e]
      exact hq
    · refine oldT_ok h r sb rv ?_
      rw [hK, e2, List.append_nil]
      exact hp
  · -- lists
    rename_i i j
    split at h
    · rename_i xs ys e1 e2
      simp only [RV] at rx ry
      obtain ⟨p, rfl, hp⟩ := rx
      obtain ⟨q, rfl, hq⟩ := ry
      obtain ⟨vs, h1, hv⟩ := r.cell _ _ _ hp e1
      obtain ⟨ws, h2, hw⟩ := r.cell _ _ _ hq e2
      obtain ⟨hz, hnew⟩ := newL_ok h r sb (hv.append hw)
      rw [List.length_append, hv.len, hw.len] at hz
      exact op_cat pins s σ H _ _ a b Q I ra rb ⟨p, q, vs, ws, rfl, rfl, sb _ _ h1, sb _ _ h2, hz, hnew⟩
    · exact h.elim
  · simp only [RV] at rx ry
    subst rx ry
    exact op_sub pins s σ H _ _ a b Q I ra rb ⟨_, _, rfl, rfl, h.here sb r _ (by simp only [RV])⟩
  · -- list * int
    rename_i i n
    split at h
    · rename_i xs e1
      split at h
      · rename_i hn
        simp only [RV] at rx ry
        obtain ⟨p, rfl, hp⟩ := rx
        subst ry
        obtain ⟨vs, h1, hv⟩ := r.cell _ _ _ hp e1
        obtain ⟨hz, hnew⟩ := newL_ok h r sb (hv.rep n.toNat)
        exact op_rep pins s σ H _ _ a b Q I ra rb ⟨p, n, vs, rfl, rfl, sb _ _ h1, by omega, by omega, by rw [← hv.len]; exact hn.2.2, hnew⟩
      · exact h.elim
    · exact h.elim
  · -- str * int
    simp only [RV] at rx ry
    subst rx ry
    split at h
    · rename_i hn
      obtain ⟨n1, n2, n3, n4⟩ := hn
      obtain ⟨t, e⟩ := (show ∃ t, a = Value.str _ t from ra)
      obtain ⟨t', e'⟩ := (show ∃ t, b = Value.int _ t from rb)
      subst e e'
      rename_i s1 n
      have m0 : s1.length * n.toNat ≤ 1000 * 1000 := Nat.mul_le_mul n4 (by omega)
      refine PySem.P.mul_str (by rw [decide_eq_false (by omega), decide_eq_false (by omega)]; rfl) (fun _ _ => ?_) (fun _ _ => ?_) ?_
      · have : (1000 : Int) ≤ (2 ^ 63 - 1) / n := Int.le_ediv_of_mul_le (by omega) (by omega)
        omega
      · unfold Builtin.Str.tooLong
        exact decide_eq_false (by have : sizeLine = 16777216 := by decide
                                  omega)
      · rw [if_neg (by omega), if_neg (by
          have h1 : (n == 1) = false := by simp; omega
          have h2 : (s1.length == 0) = false := by simp; omega
          rw [h1, h2]
          decide)]
        refine ⟨?_, .str _, H, I.tok _, ⟨_, rfl⟩, h.here sb r _ (by simp only [RV])⟩
        show ((List.replicate n.toNat s1.cps).foldl (· ++ ·) #[]).size ≤ sizeLine
        rw [rep_size]
        have e1 : s1.length = s1.cps.size := rfl
        have : sizeLine = 16777216 := by decide
        rw [e1, Nat.mul_comm] at m0
        simp only [Array.size_empty]
        omega
    · exact h.elim
  · simp only [RV] at rx ry
    subst rx ry
    split at h
    · rename_i hm
      rcases mulOk_of hm with hm | hm
      · exact op_mul pins s σ H _ _ a b Q I ra rb ⟨_, _, rfl, rfl, hm, h.here sb r _ (by simp only [RV])⟩
      · exact op_mulW pins s σ H _ _ a b Q I ra rb ⟨_, _, rfl, rfl, hm, h.here sb r _ (by simp only [RV])⟩
    · exact h.elim
  · simp only [RV] at rx ry
    subst rx ry
    split at h
    · rename_i i j hd
      unfold divOk at hd
      rw [Bool.and_eq_true, Bool.or_eq_true] at hd
      obtain ⟨hd0, hd⟩ := hd
      have hd0 := of_decide_eq_true hd0
      rcases hd with hd | hd
      · exact op_fdivN pins s σ H _ _ a b Q I ra rb ⟨_, _, rfl, rfl, ⟨hd0, of_decide_eq_true hd⟩, h.here sb r _ (by simp only [RV])⟩
      · rw [Bool.and_eq_true] at hd
        have h0 := of_decide_eq_true hd.1
        refine op_fdivW pins s σ H _ _ a b Q I ra rb ⟨_, _, rfl, rfl, ⟨h0, of_decide_eq_true hd.2⟩, h.here sb r _ ?_⟩
        simp only [RV]
        rw [Int.fdiv_eq_ediv_of_nonneg _ (by omega)]
    · exact h.elim
  · simp only [RV] at rx ry
    subst rx ry
    split at h
    · rename_i i j hd
      exact op_modN pins s σ H _ _ a b Q I ra rb ⟨_, _, rfl, rfl, hd, h.here sb r _ (by simp only [RV])⟩
    · exact h.elim
  · exact h.elim
end
end Mch

/-! ## Subscripts, slices, built-ins, methods, isinstance, walks -/
namespace Mch
open PySem PySem.Spec PyProof.Rows L2
section
variable {g : Glob} {W W' : WX} {σ σ' : L2.St} {φ : List Addr} {G H : Hp} {μ : Mem} {x y : MV} {v w : V}
theorem ixM_eq (n : Nat) (i : Int) : ixM n i = ixN n i := rfl
theorem sIxM_eq (n d : Nat) (o : Option Int) : sIxM n d o = HT.sIx n d o := by cases o <;> rfl
theorem at_of {xs : List MV} {vs : List V} {i : Int} {z : MV} (h : (ixM xs.length i).bind (fun j => xs[j]?) = some z) (r : RVs g φ G xs vs) : ∃ u, atI vs i = some u ∧ RV g φ G z u := by
  obtain ⟨j, h1, h2⟩ := Option.bind_eq_some_iff.mp h
  obtain ⟨u, h3, h4⟩ := r.get h2
  refine ⟨u, ?_, h4⟩
  unfold atI
  rw [← r.len, ← ixM_eq, h1]
  exact h3
theorem RVs.cut {xs : List MV} {vs : List V} (r : RVs g φ G xs vs) (lo hi : Option Int) : RVs g φ G (cutM xs lo hi) (cutV vs lo hi) := by
  unfold cutM cutV
  simp only [sIxM_eq, r.len]
  exact (r.drop _).take _
theorem Good.noX {α : Type} {r : R α} {k : KM α} (h : Good g W σ φ G H r k) (n : ∀ x μ, r ≠ .exc x μ) : Good g W' σ' φ G H r k := by
  cases r with
  | ok a μ => exact h
  | exc x μ => exact absurd rfl (n x μ)
  | no => exact h
theorem bls_of : ∀ {xs : List MV} {bs : List Bool} {vs : List V}, bls xs = some bs → RVs g φ G xs vs → vs = bs.map V.bl
  | [], bs, vs, h, r => by
    simp only [bls, Option.some.injEq] at h
    simp only [RVs] at r
    subst h r
    rfl
  | x :: xs, bs, vs, h, r => by
    simp only [RVs] at r
    obtain ⟨v, r1, rfl, hv, hr⟩ := r
    cases x <;> simp only [bls] at h <;> (try cases h)
    rename_i b
    cases e : bls xs with
    | none => rw [e] at h; cases h
    | some bs' =>
      rw [e] at h
      cases h
      simp only [RV] at hv
      subst hv
      rw [bls_of e hr]
      rfl
theorem strs_of : ∀ {xs : List MV} {bs : List Str} {vs : List V}, strs' xs = some bs → RVs g φ G xs vs → vs = bs.map V.str
  | [], bs, vs, h, r => by
    simp only [strs', Option.some.injEq] at h
    simp only [RVs] at r
    subst h r
    rfl
  | x :: xs, bs, vs, h, r => by
    simp only [RVs] at r
    obtain ⟨v, r1, rfl, hv, hr⟩ := r
    cases x <;> simp only [strs'] at h <;> (try cases h)
    rename_i b
    cases e : strs' xs with
    | none => rw [e] at h; cases h
    | some bs' =>
      rw [e] at h
      cases h
      simp only [RV] at hv
      subst hv
      rw [strs_of e hr]
      rfl
theorem bind_lst {α : Type} {f : List MV → Option α} {i : Nat} {z : α} (h : (lstAt μ i).bind f = some z) : ∃ xs, lstAt μ i = some xs ∧ f xs = some z := Option.bind_eq_some_iff.mp h
end
section
variable {X : Cx} {pins : List (Addr × Obj)} {s : Shared} {σ : L2.St} {g : Glob} {φ : List Addr} {G H : Hp} {μ : Mem} {x y : MV} {v w : V} {a b : Value} {W : WX} {Q : VK}
/-! ### a[b] -/
theorem idx_ok {z : MV} {value slice : PySem.Expr} (hK : g.K = X.K) (I : Inv X pins σ H s) (r : Rel g φ G μ) (sb : Sub G H) (h : idxM μ x y = some z) (rx : RV g φ G x v) (ry : RV g φ G y w) (ra : RelV v a) (rb : RelV w b)
    (hs : subscripted slice false a b = operate [a, b] (getItem a b)) (q : ∀ u, RV g φ G z u → Q u H) : wpAny (model X.prog X.w) X.A (subscriptTail value slice a b) (EP X pins σ Q) X.xe s := by
  unfold idxM at h
  split at h
  · simp only [RV] at rx ry
    obtain ⟨p, vs, rfl, hp, hv⟩ := rx
    subst ry
    obtain ⟨u, h1, h2⟩ := at_of h hv
    rw [hK] at hp
    exact ix_tup value slice pins s σ H _ _ a b Q I ra rb ⟨p, vs, _, u, rfl, rfl, sqT_sub sb hp, h1, q u h2⟩ hs
  · obtain ⟨xs, e, h⟩ := bind_lst h
    obtain ⟨p, vs, rfl, _, hp, hv⟩ := r.ref e rx
    simp only [RV] at ry
    subst ry
    obtain ⟨u, h1, h2⟩ := at_of h hv
    rw [hK] at hp
    exact ix_list value slice pins s σ H _ _ a b Q I ra rb ⟨p, vs, _, u, rfl, rfl, sqL_sub sb hp, h1, q u h2⟩ hs
  · simp only [RV] at rx ry
    subst rx ry
    split at h
    · rename_i z' i hz
      obtain ⟨j, h1, h2⟩ := Option.bind_eq_some_iff.mp h
      obtain ⟨c, h3, h4⟩ := Option.map_eq_some_iff.mp h2
      subst h4
      refine ix_str value slice pins s σ H _ _ a b Q I ra rb ⟨_, _, c, rfl, rfl, hz, ?_, q _ (by simp only [RV])⟩ hs
      unfold atI
      rw [← ixM_eq, h1]
      exact h3
    · cases h
  · cases h
/-! ### a[lo:hi] -/
theorem slc_noX {lo hi : Option Int} (x' : MX) (μ' : Mem) : slcM μ x lo hi ≠ .exc x' μ' := by
  unfold slcM newT newL
  split
  · split <;> simp
  · split
    · split <;> simp
    · simp
  · split <;> simp
  · simp
def rSl (g : Glob) : V → Option Int → Option Int → Hp → VK → Prop := fun v lo hi H Q => ∃ φ G μ x, Sub G H ∧ Rel g φ G μ ∧ RV g φ G x v ∧ Good g (fun _ _ _ _ => False) [] φ G H (slcM μ x lo hi) (kE g Q)
theorem sl_ok (hK : g.K = X.K) : SlR X (rSl g) := by
  intro pins s σ H v a vl vu lo hi sl Q I ra hs pl pu h
  obtain ⟨φ, G, μ, x, sb, r, rx, h⟩ := h
  unfold slcM at h
  split at h
  · simp only [RV] at rx
    obtain ⟨p, vs, rfl, hp, hv⟩ := rx
    have rv := hv.cut lo hi
    obtain ⟨hz, hn⟩ := newT_ok h r sb rv
    refine sl_tupA pins s σ H _ a vl vu lo hi sl Q I ra hs pl pu ⟨p, vs, rfl, by rw [← hK]; exact sqT_sub sb hp, fun e => ?_, fun _ => hn⟩
    refine oldT_ok h r sb rv ?_
    have e2 : cutV vs lo hi = vs := by
      unfold cutV
      rw [e.1, e.2]
      simp
    rw [e2]
    exact hp
  · split at h
    · rename_i i xs e
      obtain ⟨p, vs, rfl, _, hp, hv⟩ := r.ref e rx
      obtain ⟨hz, hn⟩ := newL_ok h r sb (hv.cut lo hi)
      exact sl_list pins s σ H _ a vl vu lo hi sl Q I ra hs pl pu ⟨p, vs, rfl, by rw [← hK]; exact sqL_sub sb hp, hn⟩
    · exact h.elim
  · split at h
    · rename_i z hz
      simp only [RV] at rx
      subst rx
      refine sl_str pins s σ H _ a vl vu lo hi sl Q I ra hs pl pu ⟨z, rfl, hz, ?_⟩
      refine h.here sb r _ ?_
      simp only [RV]
      unfold cutS cutM
      simp only [sIxM_eq]
      rfl
    · exact h.elim
  · exact h.elim
/-! ### xs[i] = v -/
theorem set_ok {z : MV} {u : V} {c : Value} {Q : Hp → Prop} (I : Inv X pins σ H s) (r : Rel g φ G μ) (sb : Sub G H) (h : Good g W σ φ G H (setM μ x y z) fun _ _ _ _ H1 => Q H1) (rx : RV g φ G x v) (ry : RV g φ G y w) (rz : RV g φ G z u) (ra : RelV v a) (rb : RelV w b) (rc : RelV u c) :
    wpAny (model X.prog X.w) X.A (setItem a b c) (fun _ s' => ∃ H', Inv X pins σ H' s' ∧ Q H') X.xe s := by
  unfold setM at h
  split at h
  · split at h
    · rename_i i k z' xs e
      split at h
      · rename_i j hj
        simp only [RV] at rx ry
        obtain ⟨p, rfl, hp⟩ := rx
        subst ry
        obtain ⟨vs, h1, hv⟩ := r.cell _ _ _ hp e
        refine set_list pins s σ H _ _ u a b c Q I ra rb rc ⟨p, vs, _, j, rfl, rfl, sb _ _ h1, by rw [← hv.len, ← ixM_eq]; exact hj, ?_⟩
        exact h φ _ _ (Ext.set sb h1 fun z => z) (r.setL hp e (hv.set j rz))
      · exact h.elim
    · exact h.elim
  · exact h.elim
/-! ### built-ins by values -/
def biName : BI → Str
  | .abs => "abs" | .len => "len" | .all => "all" | .any => "any" | .int => "int" | .str => "str" | .tuple => "tuple" | .list => "list" | .sum => "sum" | .min => "min" | .max => "max"
def biVal : BI → Value
  | .abs => .builtin "abs" | .len => .builtin "len" | .all => .builtin "all" | .any => .builtin "any" | .int => .type "int" | .str => .type "str" | .tuple => .type "tuple" | .list => .type "list" | .sum => .builtin "sum" | .min => .builtin "min" | .max => .builtin "max"
theorem bi_boot (b : BI) : bootBuiltins (biName b) = some (biVal b) := by
  cases b <;> decide +kernel
theorem bi_ok {bb : BI} {xs : List MV} {vs : List V} {us : List Value} (hc : X.calm = true) (hK : g.K = X.K) (I : Inv X pins σ H s) (r : Rel g φ G μ) (sb : Sub G H) (h : Good g W σ φ G H (biM μ bb xs) (kE g Q)) (rx : RVs g φ G xs vs) (ra : Vals vs us) :
    wpAny (model X.prog X.w) X.A (call (biVal bb) us) (EP X pins σ Q) X.xe s := by
  unfold biM at h
  split at h
  · obtain ⟨v, rfl, hv⟩ := rx.one
    simp only [RV] at hv
    subst hv
    exact call_abs pins s σ H _ us Q I ra ⟨_, rfl, h.here sb r _ (by simp only [RV])⟩
  · obtain ⟨v, rfl, hv⟩ := rx.one
    simp only [RV] at hv
    subst hv
    split at h
    · rename_i hz
      exact call_len pins s σ H _ us Q I ra ⟨_, _, rfl, ⟨hz, rfl⟩, h.here sb r _ (by simp only [RV])⟩
    · exact h.elim
  · obtain ⟨v, rfl, hv⟩ := rx.one
    simp only [RV] at hv
    obtain ⟨p, ws, rfl, hp, hw⟩ := hv
    rw [hK] at hp
    exact call_len pins s σ H _ us Q I ra ⟨_, _, rfl, .inr ⟨ws, sqT_sub sb hp, rfl⟩, h.here sb r _ (by simp only [RV]; rw [hw.len])⟩
  · obtain ⟨v, rfl, hv⟩ := rx.one
    split at h
    · rename_i i ys e
      obtain ⟨p, ws, rfl, _, hp, hw⟩ := r.ref e hv
      rw [hK] at hp
      exact call_len pins s σ H _ us Q I ra ⟨_, _, rfl, .inl ⟨ws, sqL_sub sb hp, rfl⟩, h.here sb r _ (by simp only [RV]; rw [hw.len])⟩
    · exact h.elim
  · obtain ⟨v, rfl, hv⟩ := rx.one
    split at h
    · rename_i i bs e
      obtain ⟨ys, e, eb⟩ := bind_lst e
      obtain ⟨p, ws, rfl, _, hp, hw⟩ := r.ref e hv
      rw [hK, bls_of eb hw] at hp
      exact cr_all hc pins s σ H _ us Q I ra ⟨p, bs, rfl, sqL_sub sb hp, h.here sb r _ (by simp only [RV])⟩
    · exact h.elim
  · obtain ⟨v, rfl, hv⟩ := rx.one
    split at h
    · rename_i i bs e
      obtain ⟨ys, e, eb⟩ := bind_lst e
      obtain ⟨p, ws, rfl, _, hp, hw⟩ := r.ref e hv
      rw [hK, bls_of eb hw] at hp
      exact cr_any hc pins s σ H _ us Q I ra ⟨p, bs, rfl, sqL_sub sb hp, h.here sb r _ (by simp only [RV])⟩
    · exact h.elim
  · obtain ⟨v, rfl, hv⟩ := rx.one
    simp only [RV] at hv
    subst hv
    exact call_int1 pins s σ H _ us Q I ra (.inl ⟨_, rfl, h.here sb r _ (by simp only [RV])⟩)
  · obtain ⟨v, rfl, hv⟩ := rx.one
    simp only [RV] at hv
    subst hv
    split at h
    · rename_i n hn
      split at h
      · rename_i hz
        exact call_int_str pins s σ H _ us Q I ra ⟨_, _, rfl, hn, hz, h.here sb r _ (by simp only [RV])⟩
      · exact h.elim
    · exact h.elim
  · obtain ⟨v, rfl, hv⟩ := rx.one
    simp only [RV] at hv
    subst hv
    exact call_int1 pins s σ H _ us Q I ra (.inr ⟨_, rfl, h.here sb r _ (by simp only [RV])⟩)
  · obtain ⟨v, rfl, hv⟩ := rx.one
    simp only [RV] at hv
    subst hv
    split at h
    · rename_i hz
      exact call_str_int pins s σ H _ us Q I ra ⟨_, rfl, hz, h.here sb r _ (by simp only [RV])⟩
    · exact h.elim
  · obtain ⟨v, rfl, hv⟩ := rx.one
    split at h
    · rename_i i ys e
      obtain ⟨p, ws, rfl, _, hp, hw⟩ := r.ref e hv
      rw [hK] at hp
      refine call_tuple_of pins s σ H _ us Q I ra ⟨p, ws, rfl, .inl ⟨sqL_sub sb hp, fun l hl => ?_⟩⟩
      have hG := sb.none hl
      have e : Ext none φ G H φ (upd G l (.tup ws)) (upd H l (.tup ws)) := by
        have := Ext.new (ex := none) (φ := φ) sb (o := .tup ws) hl []
        rwa [List.append_nil] at this
      refine h φ _ _ e (r.grow (sub_new hG)) _ ?_
      simp only [RV]
      exact ⟨l, ws, rfl, SqT.of upd_same, hw.ext e⟩
    · exact h.elim
  · obtain ⟨v, rfl, hv⟩ := rx.one
    have q := h.here sb r v hv
    simp only [RV] at hv
    obtain ⟨p, ws, rfl, hp, hw⟩ := hv
    rw [hK] at hp
    exact call_tuple_of pins s σ H _ us Q I ra ⟨p, ws, rfl, .inr ⟨sqT_sub sb hp, q⟩⟩
  · obtain ⟨v, rfl, hv⟩ := rx.one
    split at h
    · rename_i i ys e
      obtain ⟨p, ws, rfl, _, hp, hw⟩ := r.ref e hv
      rw [hK] at hp
      exact call_list_of pins s σ H _ us Q I ra ⟨p, ws, rfl, .inl (sqL_sub sb hp), (newL_ok h r sb hw).2⟩
    · exact h.elim
  · obtain ⟨v, rfl, hv⟩ := rx.one
    simp only [RV] at hv
    obtain ⟨p, ws, rfl, hp, hw⟩ := hv
    rw [hK] at hp
    exact call_list_of pins s σ H _ us Q I ra ⟨p, ws, rfl, .inr (sqT_sub sb hp), (newL_ok h r sb hw).2⟩
  · exact h.elim
/-! ### methods of built-in types -/
def mtName : Mt → Str
  | .append => "append" | .join => "join" | .startswith => "startswith" | .removeprefix => "removeprefix" | .partition => "partition" | .split => "split"
def mtTy : Mt → String
  | .append => "list" | _ => "str"
def mtId : Mt → String
  | .append => "list.append" | .join => "str.join" | .startswith => "str.startswith" | .removeprefix => "str.removeprefix" | .partition => "str.partition" | .split => "str.split"
theorem mt_pa (m : Mt) : PlainAttrs (mtTy m) := by
  cases m
  · exact PySem.F.plainAttrs_list
  all_goals exact PySem.F.plainAttrs_str
theorem mt_slot (m : Mt) : Slot (mtTy m) (mtName m) (mtId m) := by
  cases m
  · exact PySem.F.slot_list_append
  · exact PySem.F.slot_str_join
  · exact PySem.F.slot_str_startswith
  · exact PySem.F.slot_str_removeprefix
  · exact PySem.F.slot_str_partition
  · exact PySem.F.slot_str_split
theorem mt_type (m : Mt) : typeOf (.builtin (mtId m)) = pure (.type "method_descriptor") := by
  cases m
  · exact PySem.F.type_list_append
  · exact PySem.F.type_str_join
  · exact PySem.F.type_str_startswith
  · exact PySem.F.type_str_removeprefix
  · exact PySem.F.type_str_partition
  · exact PySem.F.type_str_split
/-- the receiver is of the method's type -/
theorem mth_ty {m : Mt} (hm : mthTy μ m x = true) (r : Rel g φ G μ) (sb : Sub G H) (rx : RV g φ G x v) : tyV g.K (mtTy m) v H := by
  unfold mthTy at hm
  split at hm
  · rename_i i
    cases e : lstAt μ i with
    | none => rw [e] at hm; cases hm
    | some xs =>
      obtain ⟨a, vs, rfl, _, hq, hr⟩ := r.ref e rx
      exact .inl ⟨rfl, vs, sqL_sub sb hq⟩
  all_goals first
    | (simp only [RV] at rx
       subst rx
       rfl)
    | cases hm
theorem mth_noX {m : Mt} {xs : List MV} (x' : MX) (μ' : Mem) : mthM μ m x xs ≠ .exc x' μ' := by
  unfold mthM newL newT
  split <;> (try simp) <;> (split <;> (try simp) <;> (try (split <;> simp)))
theorem bi_noX {b : BI} {xs : List MV} (x' : MX) (μ' : Mem) : biM μ b xs ≠ .exc x' μ' := by
  unfold biM newL
  split <;> (try simp) <;> (split <;> (try simp) <;> (try (split <;> simp)))
theorem rvs_strs : ∀ (l : List Str), RVs g φ G (l.map .str) (l.map V.str)
  | [] => rvs_nil
  | a :: l => rvs_cons (v := .str a) (by simp only [RV]) (rvs_strs l)
theorem mth_ok {m : Mt} {xs : List MV} {vs : List V} {us : List Value} (hK : g.K = X.K) (I : Inv X pins σ H s) (r : Rel g φ G μ) (sb : Sub G H) (h : Good g W σ φ G H (mthM μ m x xs) (kE g Q)) (rx : RV g φ G x v) (rs : RVs g φ G xs vs) (ra : RelV v a) (rb : Vals vs us) :
    wpAny (model X.prog X.w) X.A (call (.builtin (mtId m)) (a :: us)) (EP X pins σ Q) X.xe s := by
  unfold mthM at h
  split at h
  · split at h
    · rename_i i z xs' e
      split at h
      · rename_i hz
        simp only [RV] at rx
        obtain ⟨p, rfl, hp⟩ := rx
        obtain ⟨ws, h1, hw⟩ := r.cell _ _ _ hp e
        obtain ⟨u, rfl, hu⟩ := rs.one
        refine mt_append pins s σ H _ _ a us Q I ra rb ⟨p, ws, u, rfl, rfl, sb _ _ h1, by rw [← hw.len]; exact hz, ?_⟩
        exact h φ _ _ (Ext.set sb h1 fun z => z) (r.setL hp e (hw.append (rvs_cons hu rvs_nil))) _ (by simp only [RV])
      · exact h.elim
    · exact h.elim
  · split at h
    · rename_i z i ys e
      split at h
      · rename_i hz
        obtain ⟨zs, e, eb⟩ := bind_lst e
        simp only [RV] at rx
        subst rx
        obtain ⟨u, rfl, hu⟩ := rs.one
        obtain ⟨p, ws, rfl, _, hp, hw⟩ := r.ref e hu
        rw [hK, strs_of eb hw] at hp
        exact mt_join pins s σ H _ _ a us Q I ra rb ⟨_, p, ys, rfl, rfl, .inl (sqL_sub sb hp), hz, h.here sb r _ (by simp only [RV])⟩
      · exact h.elim
    · exact h.elim
  · simp only [RV] at rx
    subst rx
    obtain ⟨u, rfl, hu⟩ := rs.one
    simp only [RV] at hu
    subst hu
    exact mt_startswith pins s σ H _ _ a us Q I ra rb ⟨_, _, rfl, rfl, h.here sb r _ (by simp only [RV])⟩
  · simp only [RV] at rx
    subst rx
    obtain ⟨u, rfl, hu⟩ := rs.one
    simp only [RV] at hu
    subst hu
    split at h
    · rename_i hz
      exact mt_removeprefix pins s σ H _ _ a us Q I ra rb ⟨_, _, rfl, rfl, hz, h.here sb r _ (by simp only [RV])⟩
    · exact h.elim
  · simp only [RV] at rx
    subst rx
    obtain ⟨u, rfl, hu⟩ := rs.one
    simp only [RV] at hu
    subst hu
    split at h
    · rename_i hz
      exact mt_partition pins s σ H _ _ a us Q I ra rb ⟨_, _, rfl, rfl, hz.1, hz.2, (newT_ok h r sb (rvs_cons (v := .str _) (by simp only [RV]) (rvs_cons (v := .str _) (by simp only [RV]) (rvs_cons (v := .str _) (by simp only [RV]) rvs_nil)))).2⟩
    · exact h.elim
  · simp only [RV] at rx
    subst rx
    obtain ⟨u, rfl, hu⟩ := rs.one
    simp only [RV] at hu
    subst hu
    split at h
    · rename_i hz
      exact mt_split pins s σ H _ _ a us Q I ra rb ⟨_, _, rfl, rfl, hz.1, hz.2, (newL_ok h r sb (rvs_strs _)).2⟩
    · exact h.elim
  · exact h.elim
end
/-! ### isinstance -/
/-- the built-in types as names -/
def tyNm : TyR → String
  | .int => "int" | .bool => "bool" | .str => "str" | .list => "list" | .tuple => "tuple" | .dict => "dict" | .cls _ => ""
def tyCl (g : Glob) : TyR → Option Value
  | .cls c => (g.cA c).map .ref
  | t => some (.type (tyNm t))
/-- what the head says of isinstance where own classes are in it -/
structure KitG (g : Glob) : Prop where
  b2o : ∀ n : String, n ∈ ["NoneType", "bool", "int", "str", "tuple", "list", "dict"] → ∀ c C, g.cA c = some C → PySem.W.kitOne g.K (.type n) (.ref C) = some false
  o2b : ∀ t : TyR, (∀ c, t ≠ .cls c) → ∀ c C Cl, g.cA c = some C → g.P.clss[c]? = some Cl → Cl.exc = false → PySem.W.kitOne g.K (.ref C) (.type (tyNm t)) = some false
  ins : ∀ c C Cl, g.cA c = some C → g.P.clss[c]? = some Cl → Cl.exc = false → ∀ (H : Hp) a dx fs, H a = some (.ins C dx fs) → TyOf g.K H (.ref a) (.ref C)
  o2o : ∀ c d C D Cl, g.cA c = some C → g.cA d = some D → g.P.clss[c]? = some Cl → Cl.exc = false → PySem.W.kitOne g.K (.ref C) (.ref D) = some (decide (d ∈ Cl.up))
section
variable {g : Glob} {φ : List Addr} {G H : Hp} {μ : Mem} {x y : MV} {v w : V}
theorem tyX_list {K : PySem.W.Frag} {a : Addr} {vs : List V} (h : SqL K H a vs) : TyX K H (.ref a) (.type "list") := by
  rcases h with (h | ⟨o, h⟩) | ⟨o, its, n, h, hc, _⟩
  · exact .base (.lst h)
  · exact .base (.frz h)
  · exact .kList h hc
theorem tyX_tup {K : PySem.W.Frag} {a : Addr} {vs : List V} (h : SqT K H a vs) : TyX K H (.ref a) (.type "tuple") := by
  rcases h with (h | ⟨o, h⟩) | ⟨o, its, n, h, hc, _⟩
  · exact .base (.tup h)
  · exact .fTuple h
  · exact .kTuple h hc
/-- the type of a value -/
def tyOfM (g : Glob) (μ : Mem) : MV → Option Value
  | .non => some (.type "NoneType") | .bl _ => some (.type "bool") | .int _ => some (.type "int") | .str _ => some (.type "str") | .tup _ => some (.type "tuple") | .dic _ => some (.type "dict")
  | .ref i => (lstAt μ i).map fun _ => .type "list"
  | .obj c _ => (match g.P.clss[c]? with
    | some Cl => if Cl.exc then none else (g.cA c).map .ref
    | none => none)
  | _ => none
theorem tyOf_ok {t : Value} (hP : KitG g) (h : tyOfM g μ x = some t) (r : Rel g φ G μ) (sb : Sub G H) (rx : RV g φ G x v) : TyX g.K H v t := by
  cases x with
  | non => simp only [RV] at rx; subst rx; cases h; exact .base .non
  | bl b => simp only [RV] at rx; subst rx; cases h; exact .base (.bl b)
  | int b => simp only [RV] at rx; subst rx; cases h; exact .base (.int b)
  | str b => simp only [RV] at rx; subst rx; cases h; exact .base (.str b)
  | tup xs =>
    simp only [RV] at rx
    obtain ⟨a, vs, rfl, hq, hr⟩ := rx
    cases h
    exact tyX_tup (sqT_sub sb hq)
  | ref i =>
    simp only [tyOfM] at h
    cases e : lstAt μ i with
    | none => rw [e] at h; cases h
    | some xs =>
      rw [e] at h
      cases h
      obtain ⟨a, vs, rfl, _, hq, hr⟩ := r.ref e rx
      exact tyX_list (sqL_sub sb hq)
  | obj c xs =>
    simp only [RV] at rx
    obtain ⟨a, C, dx, fs, Cl, rfl, hc, hg, hl, _⟩ := rx
    simp only [tyOfM, hc, hl] at h
    split at h
    · cases h
    · rename_i he
      cases h
      exact .base (hP.ins c C Cl hc hl (by simpa using he) H a dx fs (sb _ _ hg))
  | fn _ => cases h
  | rng _ _ _ => cases h
  | zp _ _ => cases h
  | en _ => cases h
  | exn _ _ => cases h
  | dic _ =>
    simp only [RV] at rx
    obtain ⟨a, kvs, rfl, hg⟩ := rx
    cases h
    exact .base (.dK (sb _ _ hg))
theorem kit_bb : ∀ n : String, n ∈ ["NoneType", "bool", "int", "str", "tuple", "list", "dict"] → ∀ t : TyR, (∀ c, t ≠ .cls c) → kitB n (tyNm t) = some (decide (n = tyNm t ∨ (n = "bool" ∧ tyNm t = "int"))) := by
  intro n hn t ht
  have h : ∀ n ∈ ["NoneType", "bool", "int", "str", "tuple", "list", "dict"], ∀ t ∈ [TyR.int, .bool, .str, .list, .tuple, .dict], kitB n (tyNm t) = some (decide (n = tyNm t ∨ (n = "bool" ∧ tyNm t = "int"))) := by decide +kernel
  refine h n hn t ?_
  cases t with
  | cls c => exact absurd rfl (ht c)
  | _ => simp
theorem tyM_ok {t : TyR} {k : Bool} (hP : KitG g) (h : tyM g.P μ x t = some k) (r : Rel g φ G μ) (sb : Sub G H) (rx : RV g φ G x v) {u : Value} (hu : tyCl g t = some u) : ∃ tv, tyOfM g μ x = some tv ∧ PySem.W.kitOne g.K tv u = some k := by
  have both : (∃ c, t = .cls c) ∨ ∀ c, t ≠ .cls c := by cases t <;> simp
  rcases both with ⟨c, rfl⟩ | nt
  · simp only [tyCl, Option.map_eq_some_iff] at hu
    obtain ⟨C, hC, rfl⟩ := hu
    cases x <;> simp only [tyM] at h
    · cases h; exact ⟨_, rfl, hP.b2o _ (by simp) c C hC⟩
    · cases h; exact ⟨_, rfl, hP.b2o _ (by simp) c C hC⟩
    · cases h; exact ⟨_, rfl, hP.b2o _ (by simp) c C hC⟩
    · cases h; exact ⟨_, rfl, hP.b2o _ (by simp) c C hC⟩
    · cases h; exact ⟨_, rfl, hP.b2o _ (by simp) c C hC⟩
    · rename_i i
      cases e : lstAt μ i with
      | none => rw [e] at h; cases h
      | some xs =>
        rw [e] at h
        cases h
        exact ⟨.type "list", by simp only [tyOfM, e, Option.map_some], hP.b2o _ (by simp) c C hC⟩
    · rename_i d vs
      simp only [RV] at rx
      obtain ⟨a, D, dx, fs, Cl, rfl, hD, hg, hl, _⟩ := rx
      rw [hl] at h
      simp only at h
      split at h
      · cases h
      · rename_i he
        cases h
        have he' : Cl.exc = false := by simpa using he
        exact ⟨.ref D, by simp only [tyOfM, hl, he', hD, Option.map_some, Bool.false_eq_true, if_false], hP.o2o d c D C Cl hD hC hl he'⟩
    all_goals first
      | (cases h; exact ⟨_, rfl, hP.b2o _ (by simp) c C hC⟩)
      | cases h
  · have hu' : u = .type (tyNm t) := by
      cases t <;> first | (exact absurd rfl (nt _)) | (simp only [tyCl, Option.some.injEq] at hu; exact hu.symm)
    subst hu'
    have kb : ∀ n : String, n ∈ ["NoneType", "bool", "int", "str", "tuple", "list", "dict"] → PySem.W.kitOne g.K (.type n) (.type (tyNm t)) = some (decide (n = tyNm t ∨ (n = "bool" ∧ tyNm t = "int"))) := fun n hn => kit_ty (kit_bb n hn t nt)
    have hk : ∀ n : String, n ∈ ["NoneType", "bool", "int", "str", "tuple", "list", "dict"] → decide (n = tyNm t ∨ (n = "bool" ∧ tyNm t = "int")) = k → PySem.W.kitOne g.K (.type n) (.type (tyNm t)) = some k := fun n hn e => by rw [kb n hn, e]
    cases x with
    | non => refine ⟨_, rfl, hk _ (by simp) ?_⟩; cases t <;> simp only [tyM] at h <;> first | (cases h; decide) | exact absurd rfl (nt _)
    | bl b => refine ⟨_, rfl, hk _ (by simp) ?_⟩; cases t <;> simp only [tyM] at h <;> first | (cases h; decide) | exact absurd rfl (nt _)
    | int b => refine ⟨_, rfl, hk _ (by simp) ?_⟩; cases t <;> simp only [tyM] at h <;> first | (cases h; decide) | exact absurd rfl (nt _)
    | str b => refine ⟨_, rfl, hk _ (by simp) ?_⟩; cases t <;> simp only [tyM] at h <;> first | (cases h; decide) | exact absurd rfl (nt _)
    | tup b => refine ⟨_, rfl, hk _ (by simp) ?_⟩; cases t <;> simp only [tyM] at h <;> first | (cases h; decide) | exact absurd rfl (nt _)
    | ref i =>
      have h' : (lstAt μ i).map (fun _ => decide (t = .list)) = some k := by cases t <;> first | exact absurd rfl (nt _) | exact h
      cases e : lstAt μ i with
      | none => rw [e] at h'; cases h'
      | some xs =>
        rw [e] at h'
        simp only [Option.map_some, Option.some.injEq] at h'
        refine ⟨.type "list", by simp only [tyOfM, e, Option.map_some], hk _ (by simp) ?_⟩
        cases t <;> first | (rw [← h']; decide) | exact absurd rfl (nt _)
    | obj c vs =>
      simp only [RV] at rx
      obtain ⟨a, D, dx, fs, Cl, rfl, hD, hg, hl, _⟩ := rx
      have h' : (if Cl.exc = true then none else some false) = some k := by cases t <;> first | exact absurd rfl (nt _) | (simp only [tyM, hl] at h; exact h)
      split at h'
      · cases h'
      · rename_i he
        cases h'
        have he' : Cl.exc = false := by simpa using he
        exact ⟨.ref D, by simp only [tyOfM, hl, he', hD, Option.map_some, Bool.false_eq_true, if_false], hP.o2b t nt c D Cl hD hl he'⟩
    | fn _ => cases t <;> simp only [tyM] at h <;> first | cases h | exact absurd rfl (nt _)
    | rng _ _ _ => cases t <;> simp only [tyM] at h <;> first | cases h | exact absurd rfl (nt _)
    | zp _ _ => cases t <;> simp only [tyM] at h <;> first | cases h | exact absurd rfl (nt _)
    | en _ => cases t <;> simp only [tyM] at h <;> first | cases h | exact absurd rfl (nt _)
    | exn _ _ => cases t <;> simp only [tyM] at h <;> first | cases h | exact absurd rfl (nt _)
    | dic b => refine ⟨_, rfl, hk _ (by simp) ?_⟩; cases t <;> simp only [tyM] at h <;> first | (cases h; decide) | exact absurd rfl (nt _)
theorem tysM_ok (hP : KitG g) (r : Rel g φ G μ) (sb : Sub G H) (rx : RV g φ G x v) {tv : Value} (ht : tyOfM g μ x = some tv) : ∀ (ts : List TyR) (us : List Value) (k : Bool), tysM g.P μ x ts = some k → Paired (fun t u => tyCl g t = some u) ts us → PySem.W.kitAny g.K tv us = some k
  | [], us, k, h, p => by
    cases p
    simp only [tysM, Option.some.injEq] at h
    subst h
    exact kitAny_nil
  | t :: ts, us, k, h, p => by
    cases p with
    | cons hu pr =>
      simp only [tysM] at h
      split at h
      · rename_i e
        cases h
        obtain ⟨tv', h1, h2⟩ := tyM_ok hP e r sb rx hu
        rw [ht] at h1
        cases h1
        exact kitAny_cons h2 (fun z => by cases z) fun _ => rfl
      · rename_i e
        obtain ⟨tv', h1, h2⟩ := tyM_ok hP e r sb rx hu
        rw [ht] at h1
        cases h1
        exact kitAny_cons h2 (fun _ => tysM_ok hP r sb rx ht ts _ k h pr) fun z => by cases z
      · cases h
end
end Mch

/-! ## Expressions: each form's rule -/
namespace Mch
open PySem PySem.Spec PyProof.Rows L2
/-! ### the form of the syntax -/
def plain : PySem.Expr → Bool
  | .Starred _ _ => false
  | _ => true
def notIf : PySem.Expr → Bool
  | .IfExp _ _ _ _ => false
  | _ => true
def notSlice : PySem.Expr → Bool
  | .Slice _ _ _ _ => false
  | _ => true
def notSet : PySem.Expr → Bool
  | .Set _ _ _ => false
  | _ => true
theorem star_cons {e : PySem.Expr} {es : List PySem.Expr} {env : PySem.Env} (h : plain e = true) : starEach (e :: es) env = (false, eval e env) :: starEach es env := by
  cases e <;> first | rfl | cases h
theorem star_any {es : List PySem.Expr} {env : PySem.Env} {pos : Pos} (h : es.all plain = true) : (backTo pos (starEach es env)).any (·.1) = false := by
  induction es with
  | nil => rfl
  | cons e es ih =>
    rw [List.all_cons, Bool.and_eq_true] at h
    rw [star_cons h.1]
    have := ih h.2
    unfold backTo at this ⊢
    rw [List.map_cons, List.any_cons, this]
    rfl
theorem plainIx_of {b : PySem.Expr} (h : notSlice b = true) : PlainIx b := by
  intro o i
  cases b <;> first | rfl | cases h
theorem noSet_of {b : PySem.Expr} {op : CmpOp} (h : notSet b = true) : behindInMarks op b = false := by
  cases b <;> first | rfl | cases h
theorem fold_of {b : PySem.Expr} {env : PySem.Env} (h : notSet b = true) (x : Value) : foldedSetIterable b env x = pure x := by
  cases b <;> first | rfl | cases h
section
variable {X : Cx} {g : Glob} {T : Tab} {W : WX} {md : Md} {a b c : PySem.Expr} {A B C : E} {pos : Pos}
/-- an expression of the machine read on: the first part, then the rest -/
theorem tE_imp {σ : L2.St} {H : Hp} {Q Q' : VK} (h : tE g T W md A σ H Q) (f : ∀ v H1, Q v H1 → Q' v H1) : tE g T W md A σ H Q' := by
  obtain ⟨φ, G, μ, σm, s, r, e, h⟩ := h
  exact ⟨φ, G, μ, σm, s, r, e, h.imp fun _ _ _ _ _ _ _ k w hw => f _ _ (k w hw)⟩
theorem tT_tE {σ : L2.St} {H : Hp} {Q : Bool → Hp → Prop} (h : tT g T W md A σ H Q) : tE g T W md A σ H fun x H1 => ∃ k, TruV g.K x H1 k ∧ Q k H1 := by
  obtain ⟨φ, G, μ, σm, s, r, e, h⟩ := h
  refine ⟨φ, G, μ, σm, s, r, e, h.bind.imp fun v μ1 φ1 G1 H1 e1 r1 k w hw => ?_⟩
  obtain ⟨b, hb, q⟩ := Good.opt k e1.sub r1
  exact ⟨b, tru_of hb hw r1 e1.sub, q⟩
/-- a test by its value's truth -/
theorem pt_tru (hK : g.K = X.K) (ha : PE X a (tE g T W md A)) (he : ∀ whole, isTrue a X.env whole = (do let v ← whole; standAt a.pos; holding [v] (truthy v))) : PT X a (tT g T W md A) := by
  refine ⟨fun pins s σ H Q I h => (pt_truth ha he).run pins s σ H Q I ?_⟩
  rw [← hK]
  exact tT_tE h
/-! ### constants and names -/
theorem se_const {v : MV} {u : V} (he : PE X a (tC u)) (hv : ∀ φ G, RV g φ G v u) (ev : ∀ σ μ, evE T A σ μ = .ok v μ) : PE X a (tE g T W md A) := by
  refine ⟨fun pins s σ H Q I h => he.run pins s σ H Q I ?_⟩
  obtain ⟨φ, G, μ, σm, sb, r, e, h⟩ := h
  rw [ev] at h
  exact h.here sb r _ (hv φ G)
theorem tE_var {σ : L2.St} {H : Hp} {Q : VK} {i : Nat} (hi : md.ex i = false) (h : tE g T W md (.var i) σ H Q) : tVar i σ H Q := by
  obtain ⟨φ, G, μ, σm, sb, r, e, h⟩ := h
  simp only [evE] at h
  split at h
  · rename_i v hv
    obtain ⟨w, hw, rw'⟩ := e.env.2 i v hv hi
    exact ⟨w, hw, h.here sb r w rw'⟩
  · exact h.elim
theorem se_var {i : Nat} (he : PE X a (tVar i)) (hi : md.ex i = false) : PE X a (tE g T W md (.var i)) :=
  ⟨fun pins s σ H Q I h => he.run pins s σ H Q I (tE_var hi h)⟩
/-! ### operators -/
theorem se_bin {op : Operator} (hK : g.K = X.K) (ha : PE X a (tE g T W md A)) (hb : PE X b (tE g T W md B)) : PE X (.BinOp a op b pos) (tE g T W md (.bin op A B)) := by
  refine ⟨fun pins s σ H Q I h => ?_⟩
  obtain ⟨φ, G, μ, σm, sb, r, e, h⟩ := h
  simp only [evE] at h
  refine wpAny_BinOp (bin ha hb (R := fun x y H2 => ∃ φ G μ v u, Sub G H2 ∧ Rel g φ G μ ∧ RV g φ G v x ∧ RV g φ G u y ∧ Good g W σ φ G H2 (binM μ op v u) (kE g Q)) I ⟨φ, G, μ, σm, sb, r, e, h.bind.imp fun v μ1 φ1 G1 H1 e1 r1 k w hw =>
    ⟨φ1, G1, μ1, σm, e1.sub, r1, e.ext e1, k.bind.imp fun u μ2 φ2 G2 H2 e2 r2 k w' hw' => ⟨φ2, G2, μ2, v, u, e2.sub, r2, hw.ext e2, hw', k⟩⟩⟩ fun v u s2 x y H2 I2 rx ry q => ?_)
  obtain ⟨φ2, G2, μ2, v', u', sb2, r2, rv, ru, q⟩ := q
  exact bin_ok hK I2 r2 sb2 q rv ru rx ry
theorem se_neg (ha : PE X a (tE g T W md A)) : PE X (.UnaryOp .USub a pos) (tE g T W md (.neg A)) := by
  refine ⟨fun pins s σ H Q I h => (pe_un un_neg ha).run pins s σ H Q I ?_⟩
  obtain ⟨φ, G, μ, σm, sb, r, e, h⟩ := h
  simp only [evE] at h
  refine ⟨φ, G, μ, σm, sb, r, e, h.bind.imp fun v μ1 φ1 G1 H1 e1 r1 k w hw => ?_⟩
  split at k
  · simp only [RV] at hw
    subst hw
    exact ⟨_, rfl, k.here e1.sub r1 _ (by simp only [RV])⟩
  · exact k.elim
theorem se_not (hK : g.K = X.K) (ha : PE X a (tE g T W md A)) : PE X (.UnaryOp .Not a pos) (tE g T W md (.not A)) := by
  refine ⟨fun pins s σ H Q I h => (pe_notT ha).run pins s σ H Q I ?_⟩
  obtain ⟨φ, G, μ, σm, sb, r, e, h⟩ := h
  simp only [evE] at h
  refine ⟨φ, G, μ, σm, sb, r, e, h.bind.imp fun v μ1 φ1 G1 H1 e1 r1 k w hw => ?_⟩
  obtain ⟨b, hb, q⟩ := Good.opt k.bind e1.sub r1
  rw [← hK]
  exact ⟨b, tru_of hb hw r1 e1.sub, q.here e1.sub r1 _ (by simp only [RV])⟩
theorem st_not (ha : PT X a (tT g T W md A)) : PT X (.UnaryOp .Not a pos) (tT g T W md (.not A)) := by
  refine ⟨fun pins s σ H Q I h => (pt_not ha).run pins s σ H Q I ?_⟩
  obtain ⟨φ, G, μ, σm, sb, r, e, h⟩ := h
  refine ⟨φ, G, μ, σm, sb, r, e, ?_⟩
  simp only [evE] at h
  cases e0 : evE T A σm μ with
  | ok v μ1 =>
    rw [e0] at h
    simp only [R.bind] at h ⊢
    unfold truR at h ⊢
    cases e1 : truM μ1 v with
    | none => rw [e1] at h; exact h.elim
    | some b =>
      rw [e1] at h
      exact h
  | exc x μ1 => rw [e0] at h; exact h
  | no => rw [e0] at h; exact h
theorem se_cmp {op : CmpOp} (hK : g.K = X.K) (hu : X.A.units + 64 < cLine) (hm : notSet b = true) (ha : PE X a (tE g T W md A)) (hb : PE X b (tE g T W md B)) : PE X (.Compare a [op] [b] pos) (tE g T W md (.cmp op A B)) := by
  refine ⟨fun pins s σ H Q I h => ?_⟩
  obtain ⟨φ, G, μ, σm, sb, r, e, h⟩ := h
  simp only [evE] at h
  refine wpAny_Compare1 (bin ha hb (R := fun x y H2 => ∃ φ G μ v u, Sub G H2 ∧ Rel g φ G μ ∧ RV g φ G v x ∧ RV g φ G u y ∧ ∃ k, cmpM μ op v u = some k ∧ Q (.bl k) H2) I ⟨φ, G, μ, σm, sb, r, e, h.bind.imp fun v μ1 φ1 G1 H1 e1 r1 k w hw =>
    ⟨φ1, G1, μ1, σm, e1.sub, r1, e.ext e1, k.bind.imp fun u μ2 φ2 G2 H2 e2 r2 k w' hw' => ?_⟩⟩ fun v u s2 x y H2 I2 rx ry q => ?_) (noSet_of hm)
  · obtain ⟨b', hb', q⟩ := Good.opt k.bind e2.sub r2
    exact ⟨φ2, G2, μ2, v, u, e2.sub, r2, hw.ext e2, hw', b', hb', q.here e2.sub r2 _ (by simp only [RV])⟩
  · obtain ⟨φ2, G2, μ2, v', u', sb2, r2, rv, ru, k, hk, q⟩ := q
    exact cmp_ok hK hu I2 r2 sb2 hk rv ru rx ry q
/-- a comparison's rule, whatever the values (for the chain's) -/
def rCmp (g : Glob) (op : CmpOp) : R2 := fun x y H Q => ∃ φ G μ v u k, Sub G H ∧ Rel g φ G μ ∧ RV g φ G v x ∧ RV g φ G u y ∧ cmpM μ op v u = some k ∧ Q (.bl k) H
theorem op_cmp {op : CmpOp} (hK : g.K = X.K) (hu : X.A.units + 64 < cLine) : OpR X (compareOp op) (rCmp g op) := by
  intro pins s σ H x y v u Q I rx ry h
  obtain ⟨φ, G, μ, v', u', k, sb, r, rv, ru, hk, q⟩ := h
  exact cmp_ok hK hu I r sb hk rv ru rx ry q
theorem last_of {o1 o2 : CmpOp} (hm : notSet c = true) : lastMarks [o1, o2] [b, c] = false := by
  show behindInMarks o2 c = false
  exact noSet_of hm
theorem chain_read {σ : L2.St} {H : Hp} {Q : VK} {o1 o2 : CmpOp} (h : tE g T W md (.cmp2 o1 o2 A B C) σ H Q) : tChain (rCmp g o1) (rCmp g o2) (tE g T W md A) (tE g T W md B) (tE g T W md C) σ H Q := by
  obtain ⟨φ, G, μ, σm, sb, r, e, h⟩ := h
  simp only [evE] at h
  refine ⟨φ, G, μ, σm, sb, r, e, h.bind.imp fun v μ1 φ1 G1 H1 e1 r1 k w hw => ⟨φ1, G1, μ1, σm, e1.sub, r1, e.ext e1, k.bind.imp fun u μ2 φ2 G2 H2 e2 r2 k w' hw' => ?_⟩⟩
  obtain ⟨b', hb', q⟩ := Good.opt k.bind e2.sub r2
  refine ⟨φ2, G2, μ2, v, u, b', e2.sub, r2, hw.ext e2, hw', hb', b', rfl, ?_⟩
  cases b' with
  | false =>
    rw [if_neg Bool.false_ne_true] at q ⊢
    exact q.here e2.sub r2 _ (by simp only [RV])
  | true =>
    rw [if_pos rfl] at q ⊢
    refine ⟨φ2, G2, μ2, σm, e2.sub, r2, (e.ext e1).ext e2, q.bind.imp fun z μ3 φ3 G3 H3 e3 r3 k w2 hw2 => ?_⟩
    obtain ⟨b2, hb2, q2⟩ := Good.opt k.bind e3.sub r3
    exact ⟨φ3, G3, μ3, u, z, b2, e3.sub, r3, hw'.ext e3, hw2, hb2, q2.here e3.sub r3 _ (by simp only [RV])⟩
theorem se_cmp2 {o1 o2 : CmpOp} (hK : g.K = X.K) (hu : X.A.units + 64 < cLine) (hm : notSet c = true) (ha : PE X a (tE g T W md A)) (hb : PE X b (tE g T W md B)) (hc : PE X c (tE g T W md C)) :
    PE X (.Compare a [o1, o2] [b, c] pos) (tE g T W md (.cmp2 o1 o2 A B C)) :=
  ⟨fun pins s σ H Q I h => (pe_chain (op_cmp hK hu) (op_cmp hK hu) ha hb hc (last_of hm)).run pins s σ H Q I (chain_read h)⟩
/-- what a comparison hands on is a bool -/
theorem cmp_bool {σ : L2.St} {H : Hp} {Q : Bool → Hp → Prop} (hA : ∀ σ μ v μ', evE T A σ μ = .ok v μ' → ∃ b, v = .bl b) (h : tT g T W md A σ H Q) : tE g T W md A σ H fun x H1 => ∃ k, x = .bl k ∧ Q k H1 := by
  obtain ⟨φ, G, μ, σm, s, r, e, h⟩ := h
  refine ⟨φ, G, μ, σm, s, r, e, ?_⟩
  cases e0 : evE T A σm μ with
  | ok v μ1 =>
    obtain ⟨b, rfl⟩ := hA _ _ _ _ e0
    rw [e0] at h
    intro φ1 G1 H1 e1 r1 w hw
    simp only [RV] at hw
    exact ⟨b, hw, h φ1 G1 H1 e1 r1⟩
  | exc x μ1 => rw [e0] at h; exact h
  | no => rw [e0] at h; exact h
theorem cmp_is {op : CmpOp} : ∀ (σ : Env) μ v μ', evE T (.cmp op A B) σ μ = .ok v μ' → ∃ b, v = .bl b := by
  intro σ μ v μ' h
  simp only [evE] at h
  cases e1 : evE T A σ μ with
  | ok x μ1 =>
    rw [e1] at h
    simp only [R.bind] at h
    cases e2 : evE T B σ μ1 with
    | ok y μ2 =>
      rw [e2] at h
      simp only at h
      cases e3 : cmpM μ2 op x y with
      | none => rw [e3] at h; cases h
      | some k => rw [e3] at h; simp only [R.opt, R.ok.injEq] at h; exact ⟨k, h.1.symm⟩
    | exc x' μ2 => rw [e2] at h; cases h
    | no => rw [e2] at h; cases h
  | exc x' μ1 => rw [e1] at h; cases h
  | no => rw [e1] at h; cases h
theorem cmp2_is {o1 o2 : CmpOp} : ∀ (σ : Env) μ v μ', evE T (.cmp2 o1 o2 A B C) σ μ = .ok v μ' → ∃ b, v = .bl b := by
  intro σ μ v μ' h
  simp only [evE] at h
  cases e1 : evE T A σ μ with
  | ok x μ1 =>
    rw [e1] at h
    simp only [R.bind] at h
    cases e2 : evE T B σ μ1 with
    | ok y μ2 =>
      rw [e2] at h
      simp only at h
      cases e3 : cmpM μ2 o1 x y with
      | none => rw [e3] at h; cases h
      | some k =>
        rw [e3] at h
        simp only [R.opt] at h
        cases k with
        | false => simp only [R.ok.injEq, Bool.false_eq_true, if_false] at h; exact ⟨false, h.1.symm⟩
        | true =>
          simp only [if_true] at h
          cases e4 : evE T C σ μ2 with
          | ok z μ3 =>
            rw [e4] at h
            simp only at h
            cases e5 : cmpM μ3 o2 y z with
            | none => rw [e5] at h; cases h
            | some k => rw [e5] at h; simp only [R.opt, R.ok.injEq] at h; exact ⟨k, h.1.symm⟩
          | exc x' μ3 => rw [e4] at h; cases h
          | no => rw [e4] at h; cases h
    | exc x' μ2 => rw [e2] at h; cases h
    | no => rw [e2] at h; cases h
  | exc x' μ1 => rw [e1] at h; cases h
  | no => rw [e1] at h; cases h
/-- one comparison read as the operator's rule -/
theorem cmp_read {σ : L2.St} {H : Hp} {Q : VK} {op : CmpOp} (h : tE g T W md (.cmp op A B) σ H Q) : tOp (rCmp g op) (tE g T W md A) (tE g T W md B) σ H Q := by
  obtain ⟨φ, G, μ, σm, sb, r, e, h⟩ := h
  simp only [evE] at h
  refine ⟨φ, G, μ, σm, sb, r, e, h.bind.imp fun v μ1 φ1 G1 H1 e1 r1 k w hw => ⟨φ1, G1, μ1, σm, e1.sub, r1, e.ext e1, k.bind.imp fun u μ2 φ2 G2 H2 e2 r2 k w' hw' => ?_⟩⟩
  obtain ⟨b', hb', q⟩ := Good.opt k.bind e2.sub r2
  exact ⟨φ2, G2, μ2, v, u, b', e2.sub, r2, hw.ext e2, hw', hb', q.here e2.sub r2 _ (by simp only [RV])⟩
theorem st_cmp {op : CmpOp} (hK : g.K = X.K) (hu : X.A.units + 64 < cLine) (hm : notSet b = true) (ha : PE X a (tE g T W md A)) (hb : PE X b (tE g T W md B)) : PT X (.Compare a [op] [b] pos) (tT g T W md (.cmp op A B)) :=
  ⟨fun pins s σ H Q I h => (pt_cmpR (op_cmp hK hu) ha hb (noSet_of hm)).run pins s σ H Q I (cmp_read (cmp_bool cmp_is h))⟩
theorem st_cmp2 {o1 o2 : CmpOp} (hK : g.K = X.K) (hu : X.A.units + 64 < cLine) (hm : notSet c = true) (ha : PE X a (tE g T W md A)) (hb : PE X b (tE g T W md B)) (hc : PE X c (tE g T W md C)) :
    PT X (.Compare a [o1, o2] [b, c] pos) (tT g T W md (.cmp2 o1 o2 A B C)) :=
  ⟨fun pins s σ H Q I h => (pt_chain (op_cmp hK hu) (op_cmp hK hu) ha hb hc (last_of hm)).run pins s σ H Q I (chain_read (cmp_bool cmp2_is h))⟩
/-! ### and, or, if -/
theorem se_and {rest : List PySem.Expr} (hK : g.K = X.K) (ha : PE X a (tE g T W md A)) (hb : PE X (.BoolOp .And (b :: rest) pos) (tE g T W md B)) : PE X (.BoolOp .And (a :: b :: rest) pos) (tE g T W md (.and A B)) := by
  refine ⟨fun pins s σ H Q I h => (pe_andT ha hb).run pins s σ H Q I ?_⟩
  obtain ⟨φ, G, μ, σm, sb, r, e, h⟩ := h
  simp only [evE] at h
  refine ⟨φ, G, μ, σm, sb, r, e, h.bind.imp fun v μ1 φ1 G1 H1 e1 r1 k w hw => ?_⟩
  obtain ⟨b, hb, q⟩ := Good.opt k.bind e1.sub r1
  rw [← hK]
  refine ⟨b, tru_of hb hw r1 e1.sub, ?_⟩
  cases b with
  | true =>
    rw [if_pos rfl] at q ⊢
    exact ⟨φ1, G1, μ1, σm, e1.sub, r1, e.ext e1, q⟩
  | false =>
    rw [if_neg Bool.false_ne_true] at q ⊢
    exact q.here e1.sub r1 w hw
theorem se_or {rest : List PySem.Expr} (hK : g.K = X.K) (ha : PE X a (tE g T W md A)) (hb : PE X (.BoolOp .Or (b :: rest) pos) (tE g T W md B)) : PE X (.BoolOp .Or (a :: b :: rest) pos) (tE g T W md (.or A B)) := by
  refine ⟨fun pins s σ H Q I h => (pe_orT ha hb).run pins s σ H Q I ?_⟩
  obtain ⟨φ, G, μ, σm, sb, r, e, h⟩ := h
  simp only [evE] at h
  refine ⟨φ, G, μ, σm, sb, r, e, h.bind.imp fun v μ1 φ1 G1 H1 e1 r1 k w hw => ?_⟩
  obtain ⟨b, hb, q⟩ := Good.opt k.bind e1.sub r1
  rw [← hK]
  refine ⟨b, tru_of hb hw r1 e1.sub, ?_⟩
  cases b with
  | false =>
    rw [if_neg Bool.false_ne_true] at q ⊢
    exact ⟨φ1, G1, μ1, σm, e1.sub, r1, e.ext e1, q⟩
  | true =>
    rw [if_pos rfl] at q ⊢
    exact q.here e1.sub r1 w hw
/-- a test read on: the first part's truth, then the rest -/
theorem tT_and {σ : L2.St} {H : Hp} {Q : Bool → Hp → Prop} (h : tT g T W md (.and A B) σ H Q) : tAnd (tT g T W md A) (tT g T W md B) σ H Q := by
  obtain ⟨φ, G, μ, σm, sb, r, e, h⟩ := h
  refine ⟨φ, G, μ, σm, sb, r, e, ?_⟩
  simp only [evE] at h
  cases e0 : evE T A σm μ with
  | ok v μ1 =>
    rw [e0] at h
    simp only [R.bind] at h ⊢
    unfold truR at h ⊢
    cases e1 : truM μ1 v with
    | none => rw [e1] at h; exact h.elim
    | some b =>
      rw [e1] at h
      intro φ1 G1 H1 x1 r1
      cases b with
      | true => exact ⟨φ1, G1, μ1, σm, x1.sub, r1, e.ext x1, Good.ext (r := (evE T B σm μ1).bind truR) h x1⟩
      | false =>
        simp only [R.opt, Bool.false_eq_true, if_false, e1] at h
        exact h φ1 G1 H1 x1 r1
  | exc x μ1 => rw [e0] at h; exact h
  | no => rw [e0] at h; exact h
theorem tT_or {σ : L2.St} {H : Hp} {Q : Bool → Hp → Prop} (h : tT g T W md (.or A B) σ H Q) : tOr (tT g T W md A) (tT g T W md B) σ H Q := by
  obtain ⟨φ, G, μ, σm, sb, r, e, h⟩ := h
  refine ⟨φ, G, μ, σm, sb, r, e, ?_⟩
  simp only [evE] at h
  cases e0 : evE T A σm μ with
  | ok v μ1 =>
    rw [e0] at h
    simp only [R.bind] at h ⊢
    unfold truR at h ⊢
    cases e1 : truM μ1 v with
    | none => rw [e1] at h; exact h.elim
    | some b =>
      rw [e1] at h
      intro φ1 G1 H1 x1 r1
      cases b with
      | false => exact ⟨φ1, G1, μ1, σm, x1.sub, r1, e.ext x1, Good.ext (r := (evE T B σm μ1).bind truR) h x1⟩
      | true =>
        simp only [R.opt, if_true, e1] at h
        exact h φ1 G1 H1 x1 r1
  | exc x μ1 => rw [e0] at h; exact h
  | no => rw [e0] at h; exact h
theorem sw_and {rest : List PySem.Expr} (ha : PT X a (tT g T W md A)) (hb : PW X (.BoolOp .And (b :: rest) pos) (tT g T W md B)) : PW X (.BoolOp .And (a :: b :: rest) pos) (tT g T W md (.and A B)) :=
  ⟨fun wh pins s σ H Q I h => (pw_and ha hb).run wh pins s σ H Q I (tT_and h)⟩
theorem sw_or {rest : List PySem.Expr} (ha : PT X a (tT g T W md A)) (hb : PW X (.BoolOp .Or (b :: rest) pos) (tT g T W md B)) : PW X (.BoolOp .Or (a :: b :: rest) pos) (tT g T W md (.or A B)) :=
  ⟨fun wh pins s σ H Q I h => (pw_or ha hb).run wh pins s σ H Q I (tT_or h)⟩
theorem se_ite (hc : PT X c (tT g T W md C)) (ha : PE X a (tE g T W md A)) (hb : PE X b (tE g T W md B)) : PE X (.IfExp c a b pos) (tE g T W md (.ite C A B)) := by
  refine ⟨fun pins s σ H Q I h => (pe_ifExp hc ha hb).run pins s σ H Q I ?_⟩
  obtain ⟨φ, G, μ, σm, sb, r, e, h⟩ := h
  refine ⟨φ, G, μ, σm, sb, r, e, ?_⟩
  simp only [evE] at h
  cases e0 : evE T C σm μ with
  | ok v μ1 =>
    rw [e0] at h
    simp only [R.bind] at h ⊢
    unfold truR at h ⊢
    cases e1 : truM μ1 v with
    | none => rw [e1] at h; exact h.elim
    | some b =>
      rw [e1] at h
      intro φ1 G1 H1 x1 r1
      cases b with
      | false => exact ⟨φ1, G1, μ1, σm, x1.sub, r1, e.ext x1, Good.ext (r := evE T B σm μ1) h x1⟩
      | true => exact ⟨φ1, G1, μ1, σm, x1.sub, r1, e.ext x1, Good.ext (r := evE T A σm μ1) h x1⟩
  | exc x μ1 => rw [e0] at h; exact h
  | no => rw [e0] at h; exact h
/-! ### rows of expressions -/
theorem sa_nil : PA X [] (tEs g T W md []) := by
  refine ⟨fun pos pins s σ H Q I h => pa_nil.run pos pins s σ H Q I ?_⟩
  obtain ⟨φ, G, μ, σm, sb, r, e, h⟩ := h
  simp only [evEs] at h
  exact h.here sb r _ rvs_nil
theorem sa_cons {es : List PySem.Expr} {As : List E} (hp : plain a = true) (ha : PE X a (tE g T W md A)) (hr : PA X es (tEs g T W md As)) : PA X (a :: es) (tEs g T W md (A :: As)) := by
  refine ⟨fun pos pins s σ H Q I h => (pa_cons ha hr (star_cons hp)).run pos pins s σ H Q I ?_⟩
  obtain ⟨φ, G, μ, σm, sb, r, e, h⟩ := h
  simp only [evEs] at h
  refine ⟨φ, G, μ, σm, sb, r, e, h.bind.imp fun v μ1 φ1 G1 H1 e1 r1 k w hw => ⟨φ1, G1, μ1, σm, e1.sub, r1, e.ext e1, k.bind.imp fun u μ2 φ2 G2 H2 e2 r2 k ws hws => ?_⟩⟩
  exact k.here e2.sub r2 _ (rvs_cons (hw.ext e2) hws)
theorem se_tup {es : List PySem.Expr} {As : List E} {j : Nat} (h : PA X es (tEs g T W md As)) : PE X (.Tuple es j pos) (tE g T W md (.tup As)) := by
  refine ⟨fun pins s σ H Q I hh => (pe_tup h).run pins s σ H Q I ?_⟩
  obtain ⟨φ, G, μ, σm, sb, r, e, h⟩ := hh
  simp only [evE] at h
  refine ⟨φ, G, μ, σm, sb, r, e, h.bind.imp fun v μ1 φ1 G1 H1 e1 r1 k ws hws => ?_⟩
  obtain ⟨hz, hn⟩ := newT_ok k r1 e1.sub hws
  exact ⟨by rw [← hws.len]; exact hz, hn⟩
theorem se_lst {es : List PySem.Expr} {As : List E} (h : PA X es (tEs g T W md As)) : PE X (.List es pos) (tE g T W md (.lst As)) := by
  refine ⟨fun pins s σ H Q I hh => (pe_lst h).run pins s σ H Q I ?_⟩
  obtain ⟨φ, G, μ, σm, sb, r, e, h⟩ := hh
  simp only [evE] at h
  refine ⟨φ, G, μ, σm, sb, r, e, h.bind.imp fun v μ1 φ1 G1 H1 e1 r1 k ws hws => ?_⟩
  obtain ⟨hz, hn⟩ := newL_ok k r1 e1.sub hws
  exact ⟨by rw [← hws.len]; exact hz, hn⟩
/-! ### subscripts and slices -/
def rIdx (g : Glob) : R2 := fun x y H Q => ∃ φ G μ v u z, Sub G H ∧ Rel g φ G μ ∧ RV g φ G v x ∧ RV g φ G u y ∧ idxM μ v u = some z ∧ ∀ w, RV g φ G z w → Q w H
theorem ix_ok (hK : g.K = X.K) : IxR X (rIdx g) := by
  intro value slice pins s σ H x y v u Q I rx ry h hs
  obtain ⟨φ, G, μ, v', u', z, sb, r, rv, ru, hz, q⟩ := h
  exact idx_ok hK I r sb hz rv ru rx ry hs q
theorem se_idx (hK : g.K = X.K) (hm : notSlice b = true) (ha : PE X a (tE g T W md A)) (hb : PE X b (tE g T W md B)) : PE X (.Subscript a b pos) (tE g T W md (.idx A B)) := by
  refine ⟨fun pins s σ H Q I h => (pe_ix (ix_ok hK) ha hb (plainIx_of hm)).run pins s σ H Q I ?_⟩
  obtain ⟨φ, G, μ, σm, sb, r, e, h⟩ := h
  simp only [evE] at h
  refine ⟨φ, G, μ, σm, sb, r, e, h.bind.imp fun v μ1 φ1 G1 H1 e1 r1 k w hw => ⟨φ1, G1, μ1, σm, e1.sub, r1, e.ext e1, k.bind.imp fun u μ2 φ2 G2 H2 e2 r2 k w' hw' => ?_⟩⟩
  obtain ⟨z, hz, q⟩ := Good.opt k e2.sub r2
  exact ⟨φ2, G2, μ2, v, u, z, e2.sub, r2, hw.ext e2, hw', hz, q⟩
/-- a part of a slice -/
def tP (g : Glob) (T : Tab) (W : WX) (md : Md) (A : E) : TO := fun σ H Q => ∃ φ G μ σm, Sub G H ∧ Rel g φ G μ ∧ RSt g φ G H md σm σ ∧ Good g W σ φ G H (partR A.isNon (evE T A σm μ) μ) fun o _ _ _ H1 => Q o H1
theorem po_no : PO X none (tP g T W md .non) := by
  refine ⟨fun pins s σ H Q I h => po_none.run pins s σ H Q I ?_⟩
  obtain ⟨φ, G, μ, σm, sb, r, e, h⟩ := h
  exact Good.here (a := none) (μ := μ) h sb r
theorem po_so (hA : A.isNon = false) (ha : PE X a (tE g T W md A)) : PO X (some a) (tP g T W md A) := by
  refine ⟨fun pins s σ H Q I h => (po_some ha).run pins s σ H Q I ?_⟩
  obtain ⟨φ, G, μ, σm, sb, r, e, h⟩ := h
  rw [hA] at h
  have h : Good g W σ φ G H ((evE T A σm μ).bind _) _ := h
  refine ⟨φ, G, μ, σm, sb, r, e, h.bind.imp fun v μ1 φ1 G1 H1 e1 r1 k w hw => ?_⟩
  split at k
  · simp only [RV] at hw
    exact ⟨_, hw, k.here e1.sub r1⟩
  · exact k.elim
theorem se_slc {lo hi : Option PySem.Expr} {L Hh : E} {p2 : Pos} (hK : g.K = X.K) (ha : PE X a (tE g T W md A)) (hl : PO X lo (tP g T W md L)) (hh : PO X hi (tP g T W md Hh)) : PE X (.Subscript a (.Slice lo hi none p2) pos) (tE g T W md (.slc A L Hh)) := by
  refine ⟨fun pins s σ H Q I h => (pe_slice (sl_ok hK) ha hl hh).run pins s σ H Q I ?_⟩
  obtain ⟨φ, G, μ, σm, sb, r, e, h⟩ := h
  simp only [evE] at h
  refine ⟨φ, G, μ, σm, sb, r, e, h.bind.imp fun v μ1 φ1 G1 H1 e1 r1 k w hw => ⟨φ1, G1, μ1, σm, e1.sub, r1, e.ext e1, k.bind.imp fun l μ2 φ2 G2 H2 e2 r2 k =>
    ⟨φ2, G2, μ2, σm, e2.sub, r2, (e.ext e1).ext e2, k.bind.imp fun u μ3 φ3 G3 H3 e3 r3 k => ?_⟩⟩⟩
  exact ⟨φ3, G3, μ3, v, e3.sub, r3, (hw.ext e2).ext e3, k.noX fun x' μ' => slc_noX x' μ'⟩
end
end Mch

/-! ## Operators on own objects, the other side a built-in value -/
namespace Mch
open PySem PySem.W PySem.Calls PyProof.Rows
section
variable {prog : Program} {w : World} {A : Around} {E : Value → Shared → Prop} {s : Shared} {K : Frag} {x C L f : Addr} {h₀ : Heap} {m : Str → Option Value} {ox : Obj} {od : Option Obj}
/-- what is asked of a built-in type at an operator -/
structure OtherT (tb : String) (nm : String) : Prop where
  fl : fillsNumberSlot (.type tb) nm = pure false ∨ (fillsNumberSlot (.type tb) nm = pure true ∧ ∃ o, typeLookup (.type tb) (dunderR nm) = pure o)
theorem nslot_K {M : Model} {h : Heap} {nm : String} (X : K.In h) (hs : findIn K (.ref C) (PySem.dunder nm) = some (some (.ref f))) (hr : findIn K (.ref C) (PySem.dunderR nm) = some none) : Looks M h (numberSlotInPython (.ref C) nm) true := by
  intro A Q E s k q
  unfold numberSlotInPython
  refine wpAny_bind (looks_findIn X hs A _ E s k ?_)
  refine wpAny_bind (wpAny_pure ?_)
  refine wpAny_bind (looks_findIn X hr A _ E s k ?_)
  refine wpAny_bind (wpAny_pure ?_)
  exact wpAny_pure q
theorem bino1_K {nm : String} {b : Value} {tb : String} {Q : Value → Shared → Prop} (X : K.In s.heap) (I : InstAt s.heap x ox C od) (hb : Looks (model prog w) s.heap (typeOf b) (.type tb)) (ht : OtherT tb nm) (hc : selfFirst K C = true) (hsub : subIn K (.type tb) (.ref C) = some false)
    (hs : findIn K (.ref C) (PySem.dunder nm) = some (some (.ref f))) (hr : findIn K (.ref C) (PySem.dunderR nm) = some none) (hf : isFn K (.ref f) = true)
    (h : wpAny (model prog w) A (call (.ref f) [.ref x, b]) (PySem.W.CmpBack Q) E s) : wpAny (model prog w) A (binaryOp1 nm (.ref x) b) (fun v s' => ∃ u, v = some u ∧ Q u s') E s := by
  obtain ⟨cd, hcd, hm⟩ := any_some hc
  obtain ⟨rest, hm⟩ : ∃ rest, cd.mro = .ref C :: rest := by
    cases q : cd.mro with
    | nil => rw [q] at hm; cases hm
    | cons a r => rw [q] at hm; exact ⟨r, by rw [List.head?_cons] at hm; cases (beq_iff_eq.mp hm); rfl⟩
  have fin : wpAny (model prog w) A (tryMethod (.ref x) (dunder nm) b) (fun v s' => ∃ u, v = some u ∧ Q u s') E s := by
    unfold tryMethod
    refine wpAny_bind (special_fn X I hs (beq_iff_eq.mp hf) (wpAny_mono h (fun v s' hv => ?_) fun _ _ e => e))
    cases v <;> first | exact hv.elim | exact wpAny_pure ⟨_, rfl, hv⟩
  unfold binaryOp1
  refine wpAny_bind (I.type.here (wpAny_bind (hb.here (wpAny_bind ((fills_K X hcd hm hs).here ?_)))))
  have hne : ((Value.ref C) == Value.type tb) = false := rfl
  simp only [hne, Bool.false_eq_true, if_false]
  rcases ht.fl with e1 | ⟨e1, o, e2⟩
  · rw [e1]
    refine wpAny_bind (wpAny_pure ?_)
    simp only [Bool.and_false, Bool.false_eq_true, if_false, Bool.false_and, if_true]
    refine wpAny_bind (wpAny_pure ?_)
    simp only [Bool.false_eq_true, if_false]
    refine wpAny_bind (wpAny_mono fin (fun v s' hv => ?_) fun _ _ e => e)
    obtain ⟨u, rfl, q⟩ := hv
    exact wpAny_pure ⟨u, rfl, q⟩
  · rw [e1]
    refine wpAny_bind (wpAny_pure ?_)
    simp only [Bool.and_self, if_true, Bool.true_and]
    refine wpAny_bind ((looks_subIn X hsub).here ?_)
    simp only [Bool.false_eq_true, if_false, Bool.not_false, if_true]
    have nt : numberSlotInPython (.type tb) nm = pure false := rfl
    refine wpAny_bind ((nslot_K X hs hr).here ?_)
    rw [nt, e2]
    simp only [if_true]
    refine wpAny_bind (wpAny_pure ?_)
    simp only [Bool.not_false, if_true]
    refine wpAny_bind (wpAny_pure ?_)
    refine wpAny_bind (wpAny_mono fin (fun v s' hv => ?_) fun _ _ e => e)
    obtain ⟨u, rfl, q⟩ := hv
    exact wpAny_pure ⟨u, rfl, q⟩
theorem bino_K {op : Operator} {b : Value} {tb : String} {Q : Value → Shared → Prop} (F : Fr h₀ L s.heap m) (X₀ : K.In h₀) (I : InstAt s.heap x ox C od) (hb : Looks (model prog w) s.heap (typeOf b) (.type tb)) (ht : OtherT tb op.info.2) (hc : selfFirst K C = true) (hsub : subIn K (.type tb) (.ref C) = some false)
    (hs : findIn K (.ref C) (PySem.dunder op.info.2) = some (some (.ref f))) (hr : findIn K (.ref C) (PySem.dunderR op.info.2) = some none) (hf : isFn K (.ref f) = true)
    (h : wpAny (model prog w) A (call (.ref f) [.ref x, b]) (PySem.W.CmpBack Q) E s) : wpAny (model prog w) A (binaryOp op (.ref x) b) Q E s := by
  have X := X₀.keeps F.keep
  unfold binaryOp
  refine wpAny_holding (wpAny_bind (wpAny_mono (bino1_K X I hb ht hc hsub hs hr hf h) (fun v s' hv => ?_) fun _ _ e => e))
  obtain ⟨u, rfl, q⟩ := hv
  exact wpAny_pure q
theorem other_ok : ∀ tb ∈ ["NoneType", "bool", "int", "str", "tuple", "list"], ∀ op ∈ [Operator.Add, .Sub, .Mult], OtherT tb op.info.2 := by
  intro tb htb op hop
  simp only [List.mem_cons, List.not_mem_nil, or_false] at htb hop
  rcases htb with rfl | rfl | rfl | rfl | rfl | rfl <;> rcases hop with rfl | rfl | rfl
  · exact ⟨.inl (by kernel_rfl)⟩
  · exact ⟨.inl (by kernel_rfl)⟩
  · exact ⟨.inl (by kernel_rfl)⟩
  · exact ⟨.inr ⟨by kernel_rfl, some (.builtin "int.__radd__"), by kernel_rfl⟩⟩
  · exact ⟨.inr ⟨by kernel_rfl, some (.builtin "int.__rsub__"), by kernel_rfl⟩⟩
  · exact ⟨.inr ⟨by kernel_rfl, some (.builtin "int.__rmul__"), by kernel_rfl⟩⟩
  · exact ⟨.inr ⟨by kernel_rfl, some (.builtin "int.__radd__"), by kernel_rfl⟩⟩
  · exact ⟨.inr ⟨by kernel_rfl, some (.builtin "int.__rsub__"), by kernel_rfl⟩⟩
  · exact ⟨.inr ⟨by kernel_rfl, some (.builtin "int.__rmul__"), by kernel_rfl⟩⟩
  · exact ⟨.inl (by kernel_rfl)⟩
  · exact ⟨.inl (by kernel_rfl)⟩
  · exact ⟨.inl (by kernel_rfl)⟩
  · exact ⟨.inl (by kernel_rfl)⟩
  · exact ⟨.inl (by kernel_rfl)⟩
  · exact ⟨.inl (by kernel_rfl)⟩
  · exact ⟨.inl (by kernel_rfl)⟩
  · exact ⟨.inl (by kernel_rfl)⟩
  · exact ⟨.inl (by kernel_rfl)⟩
end
end Mch

/-! ## x != y of own objects, by __eq__ -/
namespace Mch
open PySem PySem.W PySem.Calls PyProof.Rows
section
variable {prog : Program} {w : World} {A : Around} {E : Value → Shared → Prop} {s : Shared} {K : Frag} {x C L f : Addr} {h₀ : Heap} {m : Str → Option Value} {ox : Obj} {od : Option Obj} {name : Str} {b tb : Value}
theorem ifBound_blt {M : Model} {id : String} {args : List Value} {Q : Option Value → Shared → Prop} (X : K.In s.heap) (I : InstAt s.heap x ox C od) (hs : findIn K (.ref C) name = some (some (.builtin id)))
    (hb : ∀ self, bindSpecial (.builtin id) self = pure (.builtin id, [self])) (h : wpAny M A (call (.builtin id) (.ref x :: args)) (fun v => Q (some v)) E s) : wpAny M A (callSpecialIfBound? (.ref x) name args) Q E s := by
  simp only [callSpecialIfBound?, bindSpecialIfBound?]
  refine wpAny_holding (wpAny_bind (wpAny_bind (wpAny_bind (I.type.here ((looks_findIn X hs).here ?_)))))
  refine wpAny_bind (wpAny_askSetting (wpAny_ite ?_))
  have fin : wpAny M A (call (.builtin id) ([.ref x] ++ args) >>= fun v => pure (some v)) Q E s := wpAny_bind (wpAny_mono h (fun v s' h' => wpAny_pure h') fun _ _ h' => h')
  split
  · exact wpAny_bind ((Looks.of_pure (hb _)).here (wpAny_pure (by exact fin)))
  · exact wpAny_tryCatch (wpAny_bind ((Looks.of_pure (hb _)).here (wpAny_pure (by exact fin))))
theorem one_ne {Q : Option Value → Shared → Prop} (hu : A.in1.units < cLine) (X : K.In s.heap) (I : InstAt s.heap x ox C od) (hne : findIn K (.ref C) "__ne__" = some (some (.builtin "object.__ne__"))) (hm : mroIn K C (.type "object") = some true)
    (hs : findIn K (.ref C) "__eq__" = some (some (.ref f))) (hf : isFn K (.ref f) = true) (h : wpAny (model prog w) A.in1 (call (.ref f) [.ref x, b]) (fun v s' => ∃ k, v = .bool k ∧ Q (some (.bool (!k))) s') E s) :
    wpAny (model prog w) A (tryCompare (.ref x) "__ne__" b) Q E s := by
  unfold tryCompare
  refine wpAny_bind (ifBound_blt X I hne F.slot_object_ne.bind ?_)
  refine wpAny_call (codeAny_call_builtin F.slot_object_ne.plain F.cmpEntry_ne (check_slot (i := "object.__ne__") (owner := "object") (n := "__ne__") F.cmpKind_ne F.cmpSplit_ne (I.type.andThen (looks_mroIn X hm)) (F.cmpArgs_ne _ _) ?_))
  unfold Builtin.«object.__ne__»
  refine wpAny_bind (wpAny_pure ?_)
  refine wpAny_bind (m := cRoomFor _ _) (wpAny_cRoomFor hu ?_)
  refine wpAny_bind (m := callSpecialIfBound? (.ref x) (Str.ofString "__eq__") _) (ifBound_K X I hs hf (wpAny_mono h (fun r s' hq => ?_) fun _ _ y => y))
  obtain ⟨k, rfl, hq⟩ := hq
  refine wpAny_bind (m := truthy (.bool _)) (wpAny_truthy_bool ?_)
  exact wpAny_pure (wpAny_pure hq)
theorem ne_K {Q : Value → Shared → Prop} (hu : A.units + 1 < cLine) (hu1 : A.in1.units < cLine) (F : Fr h₀ L s.heap m) (X₀ : K.In h₀) (I : InstAt s.heap x ox C od) (hb : Looks (model prog w) s.heap (typeOf b) tb) (hn : notFirst K C tb = true)
    (hne : findIn K (.ref C) "__ne__" = some (some (.builtin "object.__ne__"))) (hm : mroIn K C (.type "object") = some true) (hs : findIn K (.ref C) "__eq__" = some (some (.ref f))) (hf : isFn K (.ref f) = true)
    (h : wpAny (model prog w) A.in1 (call (.ref f) [.ref x, b]) (fun v s' => ∃ k, v = .bool k ∧ Q (.bool (!k)) s') E s) : wpAny (model prog w) A (richCompare .NotEq (.ref x) b) Q E s := by
  have X := X₀.keeps F.keep
  have one : wpAny (model prog w) A (tryCompare (.ref x) "__ne__" b) (fun r s' => ∃ v, r = some v ∧ Q v s') E s :=
    one_ne hu1 X I hne hm hs hf (wpAny_mono h (fun v s' hv => by
      obtain ⟨k, rfl, q⟩ := hv
      exact ⟨k, rfl, _, rfl, q⟩) fun _ _ e => e)
  unfold richCompare
  simp only [oneThing_ref]
  refine wpAny_holding (wpAny_bind (wpAny_cRoomFor (by omega) ?_))
  refine wpAny_bind (I.type.here (wpAny_bind (hb.here ?_)))
  split
  · rename_i q
    have e : subIn K tb (.ref C) = some false := by
      rcases Bool.or_eq_true_iff.mp hn with e | e
      · rw [beq_iff_eq.mp e] at q; simp at q
      · exact beq_iff_eq.mp e
    refine wpAny_bind ((looks_subIn X e).here ?_)
    simp only [Bool.false_eq_true, if_false]
    refine wpAny_bind (wpAny_mono one (fun r s' z => ?_) fun _ _ e => e)
    obtain ⟨v, rfl, hq⟩ := z
    exact wpAny_pure hq
  · refine wpAny_bind (wpAny_pure ?_)
    simp only [Bool.false_eq_true, if_false]
    refine wpAny_bind (wpAny_mono one (fun r s' z => ?_) fun _ _ e => e)
    obtain ⟨v, rfl, hq⟩ := z
    exact wpAny_pure hq
end
end Mch

/-! ## Calls, built-ins, methods, fields -/
namespace Mch
open PySem PySem.Spec PyProof.Rows L2
theorem evEs_len {T : Tab} : ∀ {As : List E} {σ : Env} {μ : Mem} {xs : List MV} {μ' : Mem}, evEs T As σ μ = .ok xs μ' → xs.length = As.length
  | [], σ, μ, xs, μ', h => by
    simp only [evEs, R.ok.injEq] at h
    rw [← h.1]
    rfl
  | A :: As, σ, μ, xs, μ', h => by
    simp only [evEs] at h
    cases e1 : evE T A σ μ with
    | ok x μ1 =>
      rw [e1] at h
      simp only [R.bind] at h
      cases e2 : evEs T As σ μ1 with
      | ok ys μ2 =>
        rw [e2] at h
        simp only [R.ok.injEq] at h
        rw [← h.1, List.length_cons, List.length_cons, evEs_len e2]
      | exc x' μ2 => rw [e2] at h; cases h
      | no => rw [e2] at h; cases h
    | exc x' μ1 => rw [e1] at h; cases h
    | no => rw [e1] at h; cases h
/-- what a def of the machine promises -/
def spM (g : Glob) (T : Tab) (f : Nat) : Sp := fun vs H Q Ex => ∃ φ G μ xs D, Sub G H ∧ Rel g φ G μ ∧ RVs g φ G xs vs ∧ T.P.defs[f]? = some D ∧ xs.length = D.np ∧ Good g (fun cls dd _ H1 => Ex cls dd H1) [] φ G H (T.call f xs μ) (kE g Q)
/-- the def f of the machine is one of the text's -/
structure FunOk (g : Glob) (T : Tab) (P : Program) (w : World) (K : PySem.W.Frag) (mg : Str → Option Value) (base : Heap) (k : Nat) (name : Str) (f : Nat) : Prop where
  ex : ∃ (a : Addr) (fd : FuncData) (ps : List Str) (dvs : List V) (D : Def), g.fA f = some a ∧ mg name = some (.ref a) ∧ PySem.W.keepIn K (.ref a) = true ∧ T.P.defs[f]? = some D ∧ (∀ φ G, RVs g φ G D.dfl dvs) ∧
    (∀ m, m ≤ dvs.length → ∃ ds, Vals (dvs.drop m) ds ∧ Binds K fd ps ds) ∧ FnOk P w K mg base (L2.CX P w) k a fd ps (spM g T f) ∧ (∀ xs μ, (fullArgs D xs).length = D.np → T.call f xs μ = T.call f (fullArgs D xs) μ) ∧ (∀ xs μ, T.call f xs μ ≠ .no → (fullArgs D xs).length = D.np)
section
variable {X : Cx} {g : Glob} {T : Tab} {W : WX} {md : Md} {a b c : PySem.Expr} {A B C : E} {pos : Pos} {k : Nat}
theorem good_no {α : Type} {σ : L2.St} {φ : List Addr} {G H : Hp} {r : R α} {kk : KM α} (h : Good g W σ φ G H r kk) : r ≠ .no := by
  rintro rfl
  exact h
theorem good_W {α : Type} {σ : L2.St} {φ : List Addr} {G H : Hp} {r : R α} {kk : KM α} (h : Good g W σ φ G H r kk) : Good g (fun cls dd _ H1 => WE W σ cls dd H1) [] φ G H r kk := by
  cases r <;> exact h
/-- a call's arguments, then the def's promise -/
theorem call_read {f : Nat} {D : Def} {dvs : List V} {As : List E} {σ : L2.St} {H : Hp} {Q : VK} (hD : T.P.defs[f]? = some D) (hv : ∀ φ G, RVs g φ G D.dfl dvs) (hf : ∀ xs μ, (fullArgs D xs).length = D.np → T.call f xs μ = T.call f (fullArgs D xs) μ) (hn : ∀ xs μ, T.call f xs μ ≠ .no → (fullArgs D xs).length = D.np)
    (h : tE g T W md (.call f As) σ H Q) : tCallSD (spM g T f) (dvs.drop (D.dfl.length - (D.np - As.length))) (WE W) (tEs g T W md As) σ H Q := by
  obtain ⟨φ, G, μ, σm, sb, r, e, h⟩ := h
  simp only [evE] at h
  refine ⟨φ, G, μ, σm, sb, r, e, h.bind.imp2 fun xs μ1 φ1 G1 H1 e0 e1 r1 k vs hvs => ?_⟩
  have hl := evEs_len e0
  have hnp := hn _ _ (good_no k)
  refine ⟨φ1, G1, μ1, fullArgs D xs, D, e1.sub, r1, ?_, hD, hnp, ?_⟩
  · unfold fullArgs
    rw [hl]
    exact hvs.append ((hv φ1 G1).drop _)
  · rw [← hf _ _ hnp]
    exact good_W k
theorem tEs_nil {σ : L2.St} {H : Hp} {Q : List V → Hp → Prop} (h : tEs g T W md [] σ H Q) : Q [] H := by
  obtain ⟨φ, G, μ, σm, sb, r, e, h⟩ := h
  simp only [evEs] at h
  exact h.here sb r [] rvs_nil
theorem se_call {x : Str} {p : Pos} {f : Nat} {es : List PySem.Expr} {As : List E} (hF : FunOk g T X.prog X.w X.K X.mg X.base k x f) (hr : Room k X.A) (tk : Takes X W) (hg : Gl X x) (hdb : (x == ("__debug__" : Str)) = false) (hp : es.all plain = true) (hl : es.length = As.length) (ha : PA X es (tEs g T W md As)) :
    PE X (.Call (.Name x p) es [] pos) (tE g T W md (.call f As)) := by
  obtain ⟨a, fd, ps, dvs, D, h1, h2, h3, h4, h5, h6, h7, h8, h9⟩ := hF.ex
  have h5l : D.dfl.length = dvs.length := (h5 [] fun _ => none).len
  obtain ⟨ds, hd, hb⟩ := h6 (min (D.dfl.length - (D.np - As.length)) dvs.length) (Nat.min_le_right _ _)
  have em : dvs.drop (min (D.dfl.length - (D.np - As.length)) dvs.length) = dvs.drop (D.dfl.length - (D.np - As.length)) := by
    rw [Nat.min_eq_left]
    omega
  rw [em] at hd
  refine ⟨fun pins s σ H Q I h => ?_⟩
  have h := call_read h4 h5 h8 h9 h
  cases es with
  | nil =>
    refine wpAny_Call_Name_kw (ld_glob I hg h2 ?_ hdb)
    refine PySem.W.callWith_K0 I.kIn h3 ?_
    have e0 : As = [] := List.length_eq_zero_iff.mp hl.symm
    subst e0
    exact run_fnSD (us := []) (E := WE W) h7 hr hb hd (passAt tk σ) I .nil (tEs_nil h)
  | cons e es =>
    rw [List.all_cons, Bool.and_eq_true] at hp
    exact (pe_callSD h7 hr hg h2 h3 hb hd (fun σ => passAt tk σ) ha hdb (star_cons hp.1) (star_any hp.2)).run pins s σ H Q I h
/-- a call of the def that a name holds -/
theorem se_callv {x : Str} {p : Pos} {i : Nat} {es : List PySem.Expr} {As : List E} (hF : ∀ f a, g.fA f = some a → ∃ name, FunOk g T X.prog X.w X.K X.mg X.base k name f) (hr : Room k X.A) (tk : Takes X W) (hN : X.N[i]? = some x) (hv : Vis X.env.scope x) (hi : md.ex i = false)
    (hdb : (x == ("__debug__" : Str)) = false) (hcd : (x == ("__classdict__" : Str)) = false) (hp : es.all plain = true) (hl : es.length = As.length) (ha : PA X es (tEs g T W md As)) :
    PE X (.Call (.Name x p) es [] pos) (tE g T W md (.callv i As)) := by
  refine ⟨fun pins s σ H Q I h => ?_⟩
  obtain ⟨φ, G, μ, σm, sb, r, e, h⟩ := h
  simp only [evE] at h
  split at h
  · rename_i f hf
    obtain ⟨w, hw, rw'⟩ := e.env.2 i _ hf hi
    simp only [RV] at rw'
    obtain ⟨a, rfl, hfa⟩ := rw'
    obtain ⟨name, hO⟩ := hF f a hfa
    obtain ⟨a', fd, ps, dvs, D, h1, h2, h3, h4, h5, h6, h7, h8, h9⟩ := hO.ex
    rw [hfa] at h1
    cases h1
    have h5l : D.dfl.length = dvs.length := (h5 [] fun _ => none).len
    obtain ⟨ds, hd, hb⟩ := h6 (min (D.dfl.length - (D.np - As.length)) dvs.length) (Nat.min_le_right _ _)
    have em : dvs.drop (min (D.dfl.length - (D.np - As.length)) dvs.length) = dvs.drop (D.dfl.length - (D.np - As.length)) := by
      rw [Nat.min_eq_left]
      omega
    rw [em] at hd
    have h : tCallSD (spM g T f) (dvs.drop (D.dfl.length - (D.np - As.length))) (WE W) (tEs g T W md As) σ H Q :=
      call_read h4 h5 h8 h9 ⟨φ, G, μ, σm, sb, r, e, by simp only [evE]; exact h⟩
    refine wpAny_Call_Name_kw (thn ((pe_var (pos := p) hN hv hdb hcd).run pins s σ H (fun v H1 => v = .ref a ∧ H1 = H) I ⟨.ref a, hw, rfl, rfl⟩) fun u s1 ⟨v, H1, I1, r1, q1⟩ => ?_)
    obtain ⟨rfl, rfl⟩ := q1
    cases r1
    cases es with
    | nil =>
      have e0 : As = [] := List.length_eq_zero_iff.mp hl.symm
      subst e0
      refine PySem.W.callWith_K0 I1.kIn h3 ?_
      exact run_fnSD (us := []) (E := WE W) h7 hr hb hd (passAt tk σ) I1 .nil (tEs_nil h)
    | cons e0 es =>
      rw [List.all_cons, Bool.and_eq_true] at hp
      refine PySem.W.callWith_K (h₀ := X.base) I1.ok.mod.kin h3 (thn (ha.run pos pins s1 σ _ _ I1 h) fun us s2 ⟨vs, H2, I2, r, q⟩ => ⟨I2.kIn, ?_⟩) (star_cons hp.1) (star_any hp.2)
      exact run_fnSD (E := WE W) h7 hr hb hd (passAt tk σ) I2 r q
  · exact h.elim
/-! ### built-ins by name -/
def rBi (g : Glob) (b : BI) : List V → Hp → VK → Prop := fun vs H Q => ∃ φ G μ xs, Sub G H ∧ Rel g φ G μ ∧ RVs g φ G xs vs ∧ Good g (fun _ _ _ _ => False) [] φ G H (biM μ b xs) (kE g Q)
theorem call_bi {b : BI} (hc : X.calm = true) (hK : g.K = X.K) : CallR X (biVal b) (rBi g b) := by
  intro pins s σ H vs us Q I rv h
  obtain ⟨φ, G, μ, xs, sb, r, rx, h⟩ := h
  exact bi_ok (W := fun _ _ _ _ => False) hc hK I r sb (h.noX fun x' μ' => bi_noX x' μ') rx rv
theorem bi_read {b : BI} {As : List E} {σ : L2.St} {H : Hp} {Q : VK} (h : tE g T W md (.bi b As) σ H Q) : tCB (rBi g b) (tEs g T W md As) σ H Q := by
  obtain ⟨φ, G, μ, σm, sb, r, e, h⟩ := h
  simp only [evE] at h
  exact ⟨φ, G, μ, σm, sb, r, e, h.bind.imp fun xs μ1 φ1 G1 H1 e1 r1 k vs hvs => ⟨φ1, G1, μ1, xs, e1.sub, r1, hvs, k.noX fun x' μ' => bi_noX x' μ'⟩⟩
theorem se_bi {b : BI} {p : Pos} {e : PySem.Expr} {es : List PySem.Expr} {As : List E} (hc : X.calm = true) (hK : g.K = X.K) (hg : Gl X (biName b)) (hm : X.mg (biName b) = none) (hp : (e :: es).all plain = true) (ha : PA X (e :: es) (tEs g T W md As)) :
    PE X (.Call (.Name (biName b) p) (e :: es) [] pos) (tE g T W md (.bi b As)) := by
  rw [List.all_cons, Bool.and_eq_true] at hp
  have hn : biName b ≠ "__name__" := by cases b <;> decide
  have hd : (biName b == ("__debug__" : Str)) = false := by cases b <;> decide
  refine ⟨fun pins s σ H Q I h => ?_⟩
  have ty : (∃ id, biVal b = .builtin id) ∨ ∃ n, biVal b = .type n := by cases b <;> simp [biVal]
  have boot := bi_boot b
  have cr : CallR X (biVal b) (rBi g b) := call_bi hc hK
  rcases ty with ⟨id, hid⟩ | ⟨n, hid⟩
  · rw [hid] at boot cr
    exact (pe_callB cr hg hm boot ha hn hd (star_cons hp.1) (star_any hp.2)).run pins s σ H Q I (bi_read h)
  · rw [hid] at boot cr
    exact (pe_callTy cr hg hm boot ha hn hd (star_cons hp.1) (star_any hp.2)).run pins s σ H Q I (bi_read h)
/-! ### methods of built-in types -/
def notCall0 : PySem.Expr → Bool
  | .Call (.Name _ _) [] [] _ => false
  | _ => true
theorem attr_base {o : PySem.Expr} {n : Str} {env : PySem.Env} (h : notCall0 o = true) : attributeBase o n env (eval o env) = eval o env := by
  unfold notCall0 at h
  split at h
  · cases h
  · rename_i hne
    unfold attributeBase
    split
    · exact (hne _ _ _ rfl).elim
    · rfl
def rMt (g : Glob) (m : Mt) : V → List V → Hp → VK → Prop := fun v vs H Q => ∃ φ G μ x xs, Sub G H ∧ Rel g φ G μ ∧ RV g φ G x v ∧ RVs g φ G xs vs ∧ Good g (fun _ _ _ _ => False) [] φ G H (mthM μ m x xs) (kE g Q)
theorem mt_ok {m : Mt} (hK : g.K = X.K) : MtR X (mtId m) (rMt g m) := by
  intro pins s σ H v vs a us Q I ra rv h
  obtain ⟨φ, G, μ, x, xs, sb, r, rx, rs, h⟩ := h
  exact mth_ok (W := fun _ _ _ _ => False) hK I r sb (h.noX fun x' μ' => mth_noX x' μ') rx rs ra rv
theorem few_of {e : PySem.Expr} {es : List PySem.Expr} {env : PySem.Env} (hp : (e :: es).all plain = true) (hl : (e :: es).length < 30) :
    ((backTo pos (starEach (e :: es) env)).all (fun x => !x.1) && (backToKw pos (keywordEach [] env)).all (fun x => x.1.isSome) && decide ((e :: es).length + ([] : List Keyword).length + (if ([] : List Keyword).isEmpty then 0 else 1) < 30)) = true := by
  have h1 := star_any (env := env) (pos := pos) hp
  have h2 : (backTo pos (starEach (e :: es) env)).all (fun x => !x.1) = true := by
    rw [List.all_eq_true]
    intro y hy
    have := List.any_eq_false.mp h1 y hy
    simpa using this
  rw [h2]
  show (true && true && decide ((e :: es).length + 0 + 0 < 30)) = true
  simp only [Bool.and_self, Bool.true_and, decide_eq_true_eq]
  omega
theorem se_mth {m : Mt} {apos : Pos} {o e : PySem.Expr} {es : List PySem.Expr} {O : E} {As : List E} (hK : g.K = X.K) (ho : PE X o (tE g T W md O)) (hb : notCall0 o = true) (hline : (apos.endLine == pos.line) = true) (hp : (e :: es).all plain = true) (hl : (e :: es).length < 30) (ha : PA X (e :: es) (tEs g T W md As)) :
    PE X (.Call (.Attribute o (mtName m) apos) (e :: es) [] pos) (tE g T W md (.mth m O As)) := by
  have hp' := hp
  rw [List.all_cons, Bool.and_eq_true] at hp'
  refine ⟨fun pins s σ H Q I h => (pe_bm (mt_pa m) (mt_slot m) (mt_type m) (mt_ok hK) ho ha (attr_base hb) (few_of hp hl) hline (star_cons hp'.1) (star_any hp'.2)).run pins s σ H Q I ?_⟩
  obtain ⟨φ, G, μ, σm, sb, r, e, h⟩ := h
  simp only [evE] at h
  refine ⟨φ, G, μ, σm, sb, r, e, h.bind.imp fun v μ1 φ1 G1 H1 e1 r1 k w hw => ?_⟩
  split at k
  · rename_i hty
    have ht := mth_ty hty r1 e1.sub hw
    rw [hK] at ht
    exact ⟨ht, φ1, G1, μ1, σm, e1.sub, r1, e.ext e1, k.bind.imp fun xs μ2 φ2 G2 H2 e2 r2 k vs hvs => ⟨φ2, G2, μ2, v, xs, e2.sub, r2, hw.ext e2, hvs, k.noX fun x' μ' => mth_noX x' μ'⟩⟩
  · exact k.elim
/-! ### isinstance -/
/-- a class as it is written -/
def tyName : TyR → Option Str
  | .int => some "int" | .bool => some "bool" | .str => some "str" | .list => some "list" | .tuple => some "tuple" | .dict => some "dict" | .cls _ => none
/-- an expression that is the class t -/
def PCl (X : Cx) (g : Glob) (e : PySem.Expr) (t : TyR) : Prop := ∃ v u, PE X e (tC v) ∧ ClsV v u ∧ tyCl g t = some u
theorem pcl_ty {t : TyR} {x : Str} {p : Pos} (h : tyName t = some x) (hg : Gl X x) (hm : X.mg x = none) : PCl X g (.Name x p) t := by
  cases t <;> simp only [tyName, Option.some.injEq] at h <;> (try cases h)
  · exact ⟨.ty "int", _, pe_bltn hg hm (u := .type "int") (by decide +kernel) rfl (by decide) (by decide), .ty _, rfl⟩
  · exact ⟨.ty "bool", _, pe_bltn hg hm (u := .type "bool") (by decide +kernel) rfl (by decide) (by decide), .ty _, rfl⟩
  · exact ⟨.ty "str", _, pe_bltn hg hm (u := .type "str") (by decide +kernel) rfl (by decide) (by decide), .ty _, rfl⟩
  · exact ⟨.ty "list", _, pe_bltn hg hm (u := .type "list") (by decide +kernel) rfl (by decide) (by decide), .ty _, rfl⟩
  · exact ⟨.ty "tuple", _, pe_bltn hg hm (u := .type "tuple") (by decide +kernel) rfl (by decide) (by decide), .ty _, rfl⟩
  · exact ⟨.ty "dict", _, pe_bltn hg hm (u := .type "dict") (by decide +kernel) rfl (by decide) (by decide), .ty _, rfl⟩
theorem pcl_cls {j : Nat} {C : Addr} {x : Str} {p : Pos} (h : g.cA j = some C) (hg : Gl X x) (hm : X.mg x = some (.ref C)) (hdb : (x == ("__debug__" : Str)) = false) : PCl X g (.Name x p) (.cls j) :=
  ⟨.ref C, .ref C, pe_glob hg hm rfl hdb, .own C, by simp only [tyCl, h, Option.map_some]⟩
theorem tys1 {P : Prog} {μ : Mem} {x : MV} {t : TyR} {b : Bool} (h : tysM P μ x [t] = some b) : tyM P μ x t = some b := by
  simp only [tysM] at h
  split at h
  · rename_i e
    rw [e, ← h]
  · rename_i e
    rw [e, ← h]
  · cases h
theorem isin_read {t : TyR} {v : V} {u : Value} (hP : KitG g) (hT : T.P = g.P) (hK : g.K = X.K) (hv : ClsV v u) (hu : tyCl g t = some u) {σ : L2.St} {H : Hp} {Q : VK} (h : tE g T W md (.isin A [t]) σ H Q) : tCB (rIsi X.K) (tCons (tE g T W md A) (tCons (tC v) tNil)) σ H Q := by
  obtain ⟨φ, G, μ, σm, sb, r, e, h⟩ := h
  simp only [evE] at h
  refine ⟨φ, G, μ, σm, sb, r, e, h.bind.imp fun x μ1 φ1 G1 H1 e1 r1 k w hw => ?_⟩
  obtain ⟨b, hb, q⟩ := Good.opt k.bind e1.sub r1
  have hb1 := tys1 hb
  rw [hT] at hb1
  obtain ⟨tv, h1, h2⟩ := tyM_ok hP hb1 r1 e1.sub hw hu
  refine ⟨w, v, tv, u, b, rfl, hv, ?_, by rw [← hK]; exact h2, q.here e1.sub r1 _ (by simp only [RV])⟩
  rw [← hK]
  exact tyOf_ok hP h1 r1 e1.sub hw
theorem se_isin {t : TyR} {p : Pos} {e : PySem.Expr} (hP : KitG g) (hT : T.P = g.P) (hK : g.K = X.K) (hg : Gl X "isinstance") (hm : X.mg "isinstance" = none) (hp : plain a = true) (hp' : plain e = true) (ha : PE X a (tE g T W md A)) (he : PCl X g e t) :
    PE X (.Call (.Name "isinstance" p) [a, e] [] pos) (tE g T W md (.isin A [t])) := by
  obtain ⟨v, u, he, hv, hu⟩ := he
  refine ⟨fun pins s σ H Q I h => (pe_callB (x := "isinstance") (id := "isinstance") call_isi hg hm (by decide +kernel) (pa_cons ha (pa_cons he pa_nil (star_cons hp')) (star_cons hp)) (by decide) (by decide) (star_cons hp) (star_any (by simp [hp']))).run pins s σ H Q I ?_⟩
  exact isin_read hP hT hK hv hu h
def tCs (vs : List V) : TA := fun _ H Q => Q vs H
/-- a row of classes -/
def PCls (X : Cx) (g : Glob) (es : List PySem.Expr) (ts : List TyR) : Prop := ∃ vs us, PA X es (tCs vs) ∧ Paired ClsV vs us ∧ Paired (fun t u => tyCl g t = some u) ts us ∧ vs.length = es.length
theorem pcls_nil : PCls X g [] [] := ⟨[], [], ⟨fun pos pins s σ H Q I h => pa_nil.run pos pins s σ H Q I h⟩, .nil, .nil, rfl⟩
theorem pcls_cons {e : PySem.Expr} {es : List PySem.Expr} {t : TyR} {ts : List TyR} (hp : plain e = true) (he : PCl X g e t) (hr : PCls X g es ts) : PCls X g (e :: es) (t :: ts) := by
  obtain ⟨v, u, he, hv, hu⟩ := he
  obtain ⟨vs, us, ha, hvs, hus, hn⟩ := hr
  exact ⟨v :: vs, u :: us, ⟨fun pos pins s σ H Q I h => (pa_cons he ha (star_cons hp)).run pos pins s σ H Q I h⟩, .cons hv hvs, .cons hu hus, by simp [hn]⟩
theorem se_isinT {ts : List TyR} {p p' : Pos} {j : Nat} {es : List PySem.Expr} (hP : KitG g) (hT : T.P = g.P) (hK : g.K = X.K) (hg : Gl X "isinstance") (hm : X.mg "isinstance" = none) (hp : plain a = true) (hl : es.length ≤ 50) (hne : ts ≠ []) (ha : PE X a (tE g T W md A)) (he : PCls X g es ts) :
    PE X (.Call (.Name "isinstance" p) [a, .Tuple es j p'] [] pos) (tE g T W md (.isin A ts)) := by
  obtain ⟨vs, us, he, hv, hu, hn⟩ := he
  refine ⟨fun pins s σ H Q I h => (pe_callB (x := "isinstance") (id := "isinstance") call_isiT hg hm (by decide +kernel) (pa_cons ha (pa_cons (pe_tup he) pa_nil (star_cons rfl)) (star_cons hp)) (by decide) (by decide) (star_cons hp) (star_any rfl)).run pins s σ H Q I ?_⟩
  obtain ⟨φ, G, μ, σm, sb, r, e, h⟩ := h
  simp only [evE] at h
  refine ⟨φ, G, μ, σm, sb, r, e, h.bind.imp fun x μ1 φ1 G1 H1 e1 r1 k w hw => ⟨Nat.le_trans (by rw [hn]; exact hl) (by decide : 50 ≤ sizeLine), fun q hq => ?_⟩⟩
  obtain ⟨b, hb, kq⟩ := Good.opt k.bind e1.sub r1
  rw [hT] at hb
  have hG := e1.sub.none hq
  have e2 : Ext none φ1 G1 H1 φ1 (upd G1 q (.tup vs)) (upd H1 q (.tup vs)) := by
    have := Ext.new (ex := none) (φ := φ1) e1.sub (o := .tup vs) hq []
    rwa [List.append_nil] at this
  have r2 := r1.grow (sub_new (o := .tup vs) hG)
  have hw2 := hw.ext e2
  have ty : ∃ tv, tyOfM g μ1 x = some tv ∧ PySem.W.kitAny g.K tv us = some b := by
    cases ts with
    | nil => exact absurd rfl hne
    | cons t ts =>
      cases hu with
      | cons h1 h2 =>
        rename_i u us'
        have : ∃ k, tyM g.P μ1 x t = some k := by
          simp only [tysM] at hb
          split at hb
          · exact ⟨_, by assumption⟩
          · exact ⟨_, by assumption⟩
          · cases hb
        obtain ⟨k', hk'⟩ := this
        obtain ⟨tv, h3, h4⟩ := tyM_ok hP hk' r2 e2.sub hw2 h1
        exact ⟨tv, h3, tysM_ok hP r2 e2.sub hw2 h3 (t :: ts) (u :: us') b hb (.cons h1 h2)⟩
  obtain ⟨tv, h1, h2⟩ := ty
  refine ⟨w, q, vs, tv, us, b, rfl, upd_same, hv, ?_, by rw [← hK]; exact h2, (Good.ext kq e2).here e2.sub r2 _ (by simp only [RV])⟩
  rw [← hK]
  exact tyOf_ok hP h1 r2 e2.sub hw2
/-! ### fields -/
theorem idx_lookup {fs : List (Str × V)} {f : Str} {j : Nat} {v : V} (h1 : (fs.map (·.1)).idxOf? f = some j) (h2 : (fs.map (·.2))[j]? = some v) : fs.lookup f = some v := by
  induction fs generalizing j with
  | nil => cases h1
  | cons p fs ih =>
    obtain ⟨n, u⟩ := p
    rw [List.map_cons, List.idxOf?_cons] at h1
    rw [List.lookup_cons]
    by_cases hb : n == f
    · have e := eq_of_beq hb
      subst e
      rw [if_pos (by simp)] at h1
      cases h1
      simp only [beq_self_eq_true]
      simpa using h2
    · have hb2 : (f == n) = false := by
        rw [beq_eq_false_iff_ne]
        intro z
        subst z
        simp at hb
      rw [if_neg (by simpa using hb)] at h1
      rw [hb2]
      obtain ⟨i, h3, rfl⟩ := Option.map_eq_some_iff.mp h1
      exact ih h3 (by simpa using h2)
theorem se_fld {f : Str} {o : PySem.Expr} {O : E} (hC : ∀ c C Cl, g.cA c = some C → g.P.clss[c]? = some Cl → Cl.init.isSome = true → L2.Cls g.K C ∧ ∀ f ∈ Cl.fields, NoAttr g.K C f) (hT : T.P = g.P) (hK : g.K = X.K) (ho : PE X o (tE g T W md O)) (hb : notCall0 o = true) : PE X (.Attribute o f pos) (tE g T W md (.fld O f)) := by
  refine ⟨fun pins s σ H Q I h => (pe_fld ho (attr_base hb)).run pins s σ H Q I ?_⟩
  obtain ⟨φ, G, μ, σm, sb, r, e, h⟩ := h
  simp only [evE] at h
  refine ⟨φ, G, μ, σm, sb, r, e, h.bind.imp fun x μ1 φ1 G1 H1 e1 r1 k w hw => ?_⟩
  split at k
  · rename_i c vs
    obtain ⟨z, hz, q⟩ := Good.opt k e1.sub r1
    simp only [RV] at hw
    obtain ⟨a, C, dx, fs, Cl, rfl, hc, hg, hl, hn, hr⟩ := hw
    rw [hT, hl] at hz
    simp only [Option.bind_some] at hz
    split at hz
    · rename_i hi
      obtain ⟨j, h1, h2⟩ := Option.bind_eq_some_iff.mp hz
      obtain ⟨u, h3, h4⟩ := hr.get h2
      rw [← hn] at h1
      have hf : f ∈ Cl.fields := by
        rw [← hn]
        exact List.isSome_idxOf?.mp (by rw [h1]; rfl)
      obtain ⟨c1, c2⟩ := hC c C Cl hc hl hi
      rw [hK] at c1 c2
      exact ⟨a, C, dx, fs, u, rfl, e1.sub _ _ hg, c1, c2 f hf, idx_lookup h1 h3, q u h4⟩
    · cases hz
  · exact k.elim
end
end Mch

/-! ## Objects: methods, operators -/
namespace Mch
open PySem PySem.Spec PyProof.Rows L2
/-- a method's def: f of the machine, at a -/
structure MetOk (g : Glob) (T : Tab) (P : Program) (w : World) (K : PySem.W.Frag) (mg : Str → Option Value) (base : Heap) (k : Nat) (f : Nat) (a : Addr) : Prop where
  ex : ∃ (fd : FuncData) (ps : List Str) (dvs : List V) (D : Def), T.P.defs[f]? = some D ∧ (∀ φ G, RVs g φ G D.dfl dvs) ∧
    (∀ m, m ≤ dvs.length → ∃ ds, Vals (dvs.drop m) ds ∧ Binds K fd ps ds) ∧ FnOk P w K mg base (L2.CX P w) k a fd ps (spM g T f) ∧ (∀ xs μ, (fullArgs D xs).length = D.np → T.call f xs μ = T.call f (fullArgs D xs) μ) ∧ (∀ xs μ, T.call f xs μ ≠ .no → (fullArgs D xs).length = D.np)
section
variable {X : Cx} {pins : List (Addr × Obj)} {s : Shared} {σ : L2.St} {g : Glob} {T : Tab} {φ : List Addr} {G H : Hp} {μ : Mem} {W : WX} {Q : VK} {k : Nat}
/-- a call of it by values -/
theorem met_call {f : Nat} {a : Addr} {xs : List MV} {vs : List V} {us : List Value} (M : MetOk g T X.prog X.w X.K X.mg X.base k f a) (hr : Room k X.A) (tk : Takes X W) (I : Inv X pins σ H s) (r : Rel g φ G μ) (sb : Sub G H) (rx : RVs g φ G xs vs) (ra : Vals vs us)
    (h : Good g W σ φ G H (T.call f xs μ) (kE g Q)) : wpAny (model X.prog X.w) X.A (call (.ref a) us) (EP X pins σ Q) X.xe s := by
  obtain ⟨fd, ps, dvs, D, h4, h5, h6, h7, h8, h9⟩ := M.ex
  have h5l : D.dfl.length = dvs.length := (h5 [] fun _ => none).len
  have hnp := h9 _ _ (good_no h)
  obtain ⟨ds, hd, hb⟩ := h6 (min (D.dfl.length - (D.np - xs.length)) dvs.length) (Nat.min_le_right _ _)
  have em : dvs.drop (min (D.dfl.length - (D.np - xs.length)) dvs.length) = dvs.drop (D.dfl.length - (D.np - xs.length)) := by
    rw [Nat.min_eq_left]
    omega
  rw [em] at hd
  refine run_fnSD (E := WE W) h7 hr hb hd (passAt tk σ) I ra ⟨φ, G, μ, fullArgs D xs, D, sb, r, ?_, h4, hnp, ?_⟩
  · unfold fullArgs
    exact rx.append ((h5 φ G).drop _)
  · rw [← h8 _ _ hnp]
    exact good_W h
/-- .. deeper in the stack of the built-ins -/
theorem met_call_at {A : Around} {f : Nat} {a : Addr} {xs : List MV} {vs : List V} {us : List Value} (M : MetOk g T X.prog X.w X.K X.mg X.base k f a) (hr : Room k A) (e0 : Env0 X.prog X.w X.K X.mg X.base A X.stack s H) (tk : Takes X W) (I : Inv X pins σ H s) (r : Rel g φ G μ) (sb : Sub G H) (rx : RVs g φ G xs vs) (ra : Vals vs us)
    (h : Good g W σ φ G H (T.call f xs μ) (kE g Q)) : codeAny (model X.prog X.w) A (.call (.ref a) ⟨us, []⟩) (fun r s' => match r with | .ok (.ret v) => EP X pins σ Q v s' | .ok _ => False | .error e => X.xe e s') s := by
  obtain ⟨fd, ps, dvs, D, h4, h5, h6, h7, h8, h9⟩ := M.ex
  have h5l : D.dfl.length = dvs.length := (h5 [] fun _ => none).len
  have hnp := h9 _ _ (good_no h)
  obtain ⟨ds, hd, hb⟩ := h6 (min (D.dfl.length - (D.np - xs.length)) dvs.length) (Nat.min_le_right _ _)
  have em : dvs.drop (min (D.dfl.length - (D.np - xs.length)) dvs.length) = dvs.drop (D.dfl.length - (D.np - xs.length)) := by
    rw [Nat.min_eq_left]
    omega
  rw [em] at hd
  have hsp : spM g T f (vs ++ dvs.drop (D.dfl.length - (D.np - xs.length))) H Q (WE W σ) := ⟨φ, G, μ, fullArgs D xs, D, sb, r, by unfold fullArgs; exact rx.append ((h5 φ G).drop _), h4, hnp, by rw [← h8 _ _ hnp]; exact good_W h⟩
  have r2 := ra.append hd
  have hl : (us ++ ds).length = ps.length := by rw [← r2.length]; exact h7.len _ _ _ _ hsp
  refine codeAny_mono (h7.run A X.stack s H ⟨us, []⟩ (us ++ ds) _ Q (WE W σ) hr e0 (hb s us I.kIn hl) r2 hsp) fun r s' hq => ?_
  cases r with
  | error e => exact passAt tk σ pins H s e s' I hq
  | ok fl =>
    cases fl with
    | ret u => exact I.after hq
    | next => exact False.elim hq
    | brk => exact False.elim hq
    | cont => exact False.elim hq
/-- what the head says of the classes that are made -/
structure ObjK (g : Glob) : Prop where
  cls : ∀ c C Cl, g.cA c = some C → g.P.clss[c]? = some Cl → Cl.exc = false → L2.Cls g.K C ∧ PySem.W.selfFirst g.K C = true ∧ ∀ n ∈ ["NoneType", "bool", "int", "str", "tuple", "list"], PySem.W.subIn g.K (.type n) (.ref C) = some false
  meth : ∀ c C Cl m f, g.cA c = some C → g.P.clss[c]? = some Cl → Cl.exc = false → Cl.meths.lookup m = some f → ∃ a, g.mA f = some a ∧ Meth g.K C m a ∧ Cl.fields.contains m = false
  sub : ∀ c d C D Cl Dl, g.cA c = some C → g.cA d = some D → g.P.clss[c]? = some Cl → g.P.clss[d]? = some Dl → Cl.exc = false → Dl.exc = false → PySem.W.subIn g.K (.ref D) (.ref C) = some (decide (c ∈ Dl.up))
  ne : ∀ c C Cl, g.cA c = some C → g.P.clss[c]? = some Cl → Cl.exc = false → Cl.meths.lookup ("__ne__" : Str) = none → PySem.W.findIn g.K (.ref C) "__ne__" = some (some (.builtin "object.__ne__"))
  obj : ∀ c C Cl, g.cA c = some C → g.P.clss[c]? = some Cl → Cl.exc = false → PySem.W.mroIn g.K C (.type "object") = some true
  fmt : ∀ c C Cl, g.cA c = some C → g.P.clss[c]? = some Cl → Cl.exc = false → PySem.W.findIn g.K (.ref C) "__format__" = some (some (.builtin "object.__format__"))
  refl : ∀ c C Cl, g.cA c = some C → g.P.clss[c]? = some Cl → Cl.exc = false → ∀ op ∈ [Operator.Add, .Sub, .Mult], PySem.W.findIn g.K (.ref C) (PySem.dunderR op.info.2) = some none
end
end Mch

/-! ## Operators of objects -/
namespace Mch
open PySem PySem.Spec PyProof.Rows L2
section
variable {X : Cx} {pins : List (Addr × Obj)} {s : Shared} {σ : L2.St} {g : Glob} {T : Tab} {φ : List Addr} {G H : Hp} {μ : Mem} {W : WX} {Q : VK} {k : Nat} {x y : MV} {v w : V} {a b : Value}
/-- what an operator's rule takes of the context -/
structure ObjX (X : Cx) (g : Glob) (T : Tab) (W : WX) (k : Nat) : Prop where
  K : g.K = X.K
  TP : T.P = g.P
  o : ObjK g
  kit : KitG g
  met : ∀ f a, g.mA f = some a → MetOk g T X.prog X.w X.K X.mg X.base k f a
  hr4 : Room (k + 4) X.A
  tk : Takes X W
theorem ObjX.hr2 (h : ObjX X g T W k) : Room (k + 2) X.A := h.hr4.mono (by omega)
theorem ObjX.hr (h : ObjX X g T W k) : Room k X.A := h.hr4.mono (by omega)
theorem op_name {op : Operator} {P : Prog} {c f : Nat} (h : methOf P c (opName op) = some f) (hn : methOf P c "-" = none) : op ∈ [Operator.Add, .Sub, .Mult] ∧ opName op = PySem.dunder op.info.2 := by
  cases op <;> first
    | exact ⟨by simp, by decide +kernel⟩
    | (exfalso; have h : methOf P c "-" = some f := h; rw [hn] at h; cases h)
theorem meth_get {P : Prog} {c f : Nat} {m : Str} (h : methOf P c m = some f) : ∃ Cl, P.clss[c]? = some Cl ∧ Cl.exc = false ∧ Cl.meths.lookup m = some f := by
  unfold methOf at h
  obtain ⟨Cl, h1, h2⟩ := Option.bind_eq_some_iff.mp h
  split at h2
  · cases h2
  · rename_i he
    exact ⟨Cl, h1, by simpa using he, h2⟩
/-- the other side's type -/
theorem oth_type {c : Nat} {C : Addr} (hO : ObjX X g T W k) (I : Inv X pins σ H s) (hc : g.cA c = some C) (h : othB c μ y = true) (r : Rel g φ G μ) (sb : Sub G H) (ry : RV g φ G y w) (rb : RelV w b) :
    (∃ n ∈ ["NoneType", "bool", "int", "str", "tuple", "list"], PySem.W.Looks (model X.prog X.w) s.heap (typeOf b) (.type n)) ∨ (∃ a' dx fs, w = .ref a' ∧ H a' = some (.ins C dx fs)) := by
  have bi : ∀ {n : String}, n ∈ ["NoneType", "bool", "int", "str", "tuple", "list"] → TyX X.K H w (.type n) → ∃ n ∈ ["NoneType", "bool", "int", "str", "tuple", "list"], PySem.W.Looks (model X.prog X.w) s.heap (typeOf b) (.type n) := fun {n} hn ty => by
    obtain ⟨P, kx, hp, _⟩ := kit_of I rb ty
    exact ⟨n, hn, kx.ty _ _ I.kIn hp⟩
  have hK := hO.K
  cases y <;> simp only [othB, Bool.false_eq_true] at h
  · simp only [RV] at ry; subst ry; exact .inl (bi (n := "NoneType") (by simp) (.base .non))
  · simp only [RV] at ry; subst ry; exact .inl (bi (n := "bool") (by simp) (.base (.bl _)))
  · simp only [RV] at ry; subst ry; exact .inl (bi (n := "int") (by simp) (.base (.int _)))
  · simp only [RV] at ry; subst ry; exact .inl (bi (n := "str") (by simp) (.base (.str _)))
  · simp only [RV] at ry
    obtain ⟨p, vs, rfl, hq, hv⟩ := ry
    rw [hK] at hq
    exact .inl (bi (n := "tuple") (by simp) (tyX_tup (sqT_sub sb hq)))
  · obtain ⟨ys, e⟩ := Option.isSome_iff_exists.mp h
    obtain ⟨p, vs, rfl, _, hq, hv⟩ := r.ref e ry
    rw [hK] at hq
    exact .inl (bi (n := "list") (by simp) (tyX_list (sqL_sub sb hq)))
  · rename_i d ws
    have e := eq_of_beq h
    subst e
    simp only [RV] at ry
    obtain ⟨p, C', dx, fs, Cl, rfl, h1, h2, _⟩ := ry
    rw [hc] at h1
    cases h1
    exact .inr ⟨p, dx, fs, rfl, sb _ _ h2⟩
theorem inst_of {p C dx : Addr} {fs : List (Str × V)} (I : Inv X pins σ H s) (e : H p = some (.ins C dx fs)) : ∃ ox od, PySem.W.InstAt s.heap p ox C (some od) := by
  obtain ⟨mA, O, _⟩ := ins_get I.hok e
  obtain ⟨od, J, _⟩ := O.look
  exact ⟨_, od, J⟩
theorem binT_ok {op : Operator} (hO : ObjX X g T W k) (hn : ∀ c, methOf g.P c "-" = none) (I : Inv X pins σ H s) (r : Rel g φ G μ) (sb : Sub G H) (h : Good g W σ φ G H (binT T μ op x y) (kE g Q)) (rx : RV g φ G x v) (ry : RV g φ G y w) (ra : RelV v a) (rb : RelV w b) :
    wpAny (model X.prog X.w) X.A (binaryOp op a b) (EP X pins σ Q) X.xe s := by
  unfold binT at h
  split at h
  · rename_i c vs
    split at h
    · rename_i f hf
      split at h
      · rename_i ho
        rw [hO.TP] at hf
        obtain ⟨hop, hnm⟩ := op_name hf (hn c)
        obtain ⟨Cl, hl, he, hm⟩ := meth_get hf
        have rx0 := rx
        simp only [RV] at rx
        obtain ⟨p, C, dx, fs, Cl', rfl, hc, hg, _⟩ := rx
        obtain ⟨c1, c2, c3⟩ := hO.o.cls c C Cl hc hl he
        obtain ⟨fa, m1, m2, _⟩ := hO.o.meth c C Cl _ f hc hl he hm
        have rfl2 := hO.o.refl c C Cl hc hl he op hop
        rw [hO.K] at c2 c3 m2 rfl2
        rw [hnm] at m2
        cases (show a = Value.ref p from ra)
        obtain ⟨ox, od, J⟩ := inst_of I (sb _ _ hg)
        obtain ⟨m, hF⟩ := I.fr
        have call := met_call (us := [.ref p, b]) (vs := [.ref p, w]) (hO.met f fa m1) hO.hr hO.tk I r sb (rvs_cons rx0 (rvs_cons ry rvs_nil)) (.cons rfl (.cons rb .nil)) h
        have call2 : wpAny (model X.prog X.w) X.A (PySem.call (.ref fa) [.ref p, b]) (PySem.W.CmpBack (EP X pins σ Q)) X.xe s := wpAny_mono call (fun u s' hu => by
          obtain ⟨z, H', I', rz, q⟩ := hu
          exact SlX.cmpback rz ⟨z, H', I', rz, q⟩) fun _ _ e => e
        rcases oth_type hO I hc ho r sb ry rb with ⟨n, hn, hty⟩ | ⟨p', dx', fs', rfl, e'⟩
        · exact bino_K hF I.ok.mod.kin J hty (other_ok n hn op hop) c2 (c3 n hn) m2.at_ rfl2 m2.fn call2
        · cases (show b = Value.ref p' from rb)
          obtain ⟨ox', od', J'⟩ := inst_of I e'
          exact PySem.W.binop_K hF I.ok.mod.kin J J'.type c2 m2.at_ m2.fn call2
      · exact h.elim
    · exact h.elim
  · exact bin_ok hO.K I r sb h rx ry ra rb
/-- a method called on the object, by the machine's run -/
theorem obj_call {c f : Nat} {m : Str} {vs : List MV} {ws : List MV} {vw : List V} {bs : List Value} (hO : ObjX X g T W k) (I : Inv X pins σ H s) (r : Rel g φ G μ) (sb : Sub G H) (hf : methOf g.P c m = some f) (rx : RV g φ G (.obj c vs) v) (ra : RelV v a) (rw' : RVs g φ G ws vw) (rb : Vals vw bs) :
    ∃ p C fa ox od, a = .ref p ∧ g.cA c = some C ∧ PySem.W.InstAt s.heap p ox C (some od) ∧ Meth X.K C m fa ∧ (∀ n ∈ ["NoneType", "bool", "int", "str", "tuple", "list"], PySem.W.subIn X.K (.type n) (.ref C) = some false) ∧
      ∀ {Q : VK}, Good g W σ φ G H (T.call f (.obj c vs :: ws) μ) (kE g Q) → wpAny (model X.prog X.w) X.A (PySem.call (.ref fa) (.ref p :: bs)) (EP X pins σ Q) X.xe s := by
  obtain ⟨Cl, hl, he, hm⟩ := meth_get hf
  have rx0 := rx
  simp only [RV] at rx
  obtain ⟨p, C, dx, fs, Cl', rfl, hc, hg, _⟩ := rx
  obtain ⟨c1, c2, c3⟩ := hO.o.cls c C Cl hc hl he
  obtain ⟨fa, m1, m2, _⟩ := hO.o.meth c C Cl m f hc hl he hm
  rw [hO.K] at c3 m2
  cases (show a = Value.ref p from ra)
  obtain ⟨ox, od, J⟩ := inst_of I (sb _ _ hg)
  exact ⟨p, C, fa, ox, od, rfl, hc, J, m2, c3, fun {Q} h => met_call (us := .ref p :: bs) (vs := .ref p :: vw) (hO.met f fa m1) hO.hr hO.tk I r sb (rvs_cons rx0 rw') (.cons rfl rb) h⟩
theorem negT_ok (hO : ObjX X g T W k) (I : Inv X pins σ H s) (r : Rel g φ G μ) (sb : Sub G H) (h : Good g W σ φ G H (negT T μ x) (kE g Q)) (rx : RV g φ G x v) (ra : RelV v a) : wpAny (model X.prog X.w) X.A (unaryOp .USub a) (EP X pins σ Q) X.xe s := by
  unfold negT at h
  split at h
  · rename_i c vs
    split at h
    · rename_i f hf
      rw [hO.TP] at hf
      obtain ⟨p, C, fa, ox, od, rfl, hc, J, hm, _, call⟩ := obj_call (ws := []) (vw := []) (bs := []) hO I r sb hf rx ra rvs_nil .nil
      unfold unaryOp
      refine wpAny_holding ?_
      show wpAny _ _ (do match ← callSpecial? (.ref p) "__neg__" with
        | some r => pure r
        | none => _) _ _ _
      refine wpAny_bind (PySem.W.special_fn I.kIn J hm.at_ (beq_iff_eq.mp hm.fn) (wpAny_mono (call h) (fun u s' hu => ?_) fun _ _ e => e))
      exact wpAny_pure hu
    · exact h.elim
  · simp only [RV] at rx
    subst rx
    exact un_neg pins s σ H _ a Q I ra ⟨_, rfl, h.here sb r _ (by simp only [RV])⟩
  · exact h.elim
theorem cm_info {op : CmpOp} {m : Str} (h : cmName op = some m) : (∀ a b, compareOp op a b = richCompare op a b) ∧ m = (cmpInfo op).2.1 := by
  cases op <;> simp only [cmName, reduceCtorEq, Option.some.injEq] at h <;> subst h <;> exact ⟨fun _ _ => rfl, rfl⟩
theorem othC_type {c : Nat} {C : Addr} {Cl : ClsM} (hO : ObjX X g T W k) (I : Inv X pins σ H s) (hc : g.cA c = some C) (hl : g.P.clss[c]? = some Cl) (he : Cl.exc = false) (h : othC g.P c μ y = true) (r : Rel g φ G μ) (sb : Sub G H) (ry : RV g φ G y w) (rb : RelV w b) :
    ∃ tb, PySem.W.Looks (model X.prog X.w) s.heap (typeOf b) tb ∧ PySem.W.notFirst X.K C tb = true := by
  have c3 := (hO.o.cls c C Cl hc hl he).2.2
  rw [hO.K] at c3
  have base : othB c μ y = true → ∃ tb, PySem.W.Looks (model X.prog X.w) s.heap (typeOf b) tb ∧ PySem.W.notFirst X.K C tb = true := fun h => by
    rcases oth_type hO I hc h r sb ry rb with ⟨n, hn, hty⟩ | ⟨p', dx', fs', rfl, e'⟩
    · exact ⟨_, hty, by unfold PySem.W.notFirst; rw [c3 n hn]; rfl⟩
    · cases (show b = Value.ref p' from rb)
      obtain ⟨ox', od', J'⟩ := inst_of I e'
      exact ⟨_, J'.type, by unfold PySem.W.notFirst; simp⟩
  cases y with
  | obj d ws =>
    simp only [othC, Bool.or_eq_true] at h
    rcases h with h | h
    · exact base h
    · split at h
      · rename_i D hD
        simp only [Bool.and_eq_true, Bool.not_eq_true', List.contains_eq_mem, decide_eq_false_iff_not] at h
        simp only [RV] at ry
        obtain ⟨p, C', dx, fs, Cl', rfl, h1, h2, _⟩ := ry
        cases (show b = Value.ref p from rb)
        obtain ⟨ox', od', J'⟩ := inst_of I (sb _ _ h2)
        refine ⟨_, J'.type, ?_⟩
        have := hO.o.sub c d C C' Cl D hc h1 hl hD he h.1
        rw [hO.K] at this
        unfold PySem.W.notFirst
        rw [this, decide_eq_false h.2]
        simp
      · cases h
  | _ => exact base h
end
end Mch

/-! ## != of lists and tuples that are equal item by item -/
namespace Mch
open PySem PySem.SeqAt
open AutoSeq1 (wpAny_loadPart')
open MeetsSeq MeetsSeq2 MeetsSeq3 SeqRoads2
section
variable {prog : Program} {w : World} {A : Around} {R : Result → Shared → Prop}
theorem ne_turns (p q : Addr) (N : Nat) (J : Nat → Shared → Prop) (hj : GQ.ListI prog w A (fun e s' => R (.error e) s') p q N J) (last : ∀ s, J N s → R (.ok (.ret (.bool false))) s) :
    ∀ (m i : Nat), N - i = m → i ≤ N → ∀ s, J i s → wpAny (model prog w) A.in1 (Builtin.«list.__eq__.loop» ⟨[.ref p, .ref q, rawInt i, rawInt 3], []⟩) (GQ.FinOf prog w A R) (fun e s' => R (.error e) s') s
  | 0, i, hm, hi, s, h => by
    obtain ⟨us, vs, n, n2, gp, gq, z1, z2, _⟩ := hj _ _ h
    have ei : i = N := by omega
    have hR : R (.ok (.ret (.bool false))) s := last s (ei ▸ h)
    obtain ⟨hp, g, d, tk, os⟩ := s
    wp_walk using wpAny_loadPart' gp, wpAny_loadPart' gq
    have n1 : us[((i : Nat) : Int).toNat]? = none := by simp; omega
    have n2 : vs[((i : Nat) : Int).toNat]? = none := by simp; omega
    rw [n1, n2]
    wp_walk using wpAny_loadPart' gp, wpAny_loadPart' gq
    show R (.ok (.ret (.bool (us.size != vs.size)))) _
    rw [z1, z2]
    simpa using hR
  | m + 1, i, hm, hi, s, h => by
    obtain ⟨us, vs, n, n2, gp, gq, z1, z2, tn⟩ := hj _ _ h
    have lu : i < us.size := by omega
    have lv : i < vs.size := by omega
    have ht := tn lu lv
    obtain ⟨hp, g, d, tk, os⟩ := s
    wp_walk using wpAny_loadPart' gp, wpAny_loadPart' gq
    have n1 : us[((i : Nat) : Int).toNat]? = some us[i] := by simp [lu]
    have n2 : vs[((i : Nat) : Int).toNat]? = some vs[i] := by simp [lv]
    have ec : ((i : Int) + 1) = ((i + 1 : Nat) : Int) := by omega
    rw [n1, n2]
    refine wpAny_bind (wpAny_mono ht (fun r t ht2 => ?_) fun _ _ x => x)
    obtain ⟨rfl, ht2⟩ := ht2
    have more := ne_turns p q N J hj last m (i + 1) (by omega) (by omega) t ht2
    obtain ⟨hp2, g2, d2, tk2, os2⟩ := t
    wp_walk
    rw [ec]
    refine ⟨plainId_quiet plain_eq_loop _, codeAny_builtin entry_eq_loop ?_⟩
    rw [Around.under_plainId plain_eq_loop _]
    exact more
theorem ne_list (p q : Addr) (N : Nat) (J : Nat → Shared → Prop) (hj : GQ.ListI prog w A (fun e s' => R (.error e) s') p q N J) (last : ∀ s, J N s → R (.ok (.ret (.bool false))) s) {s : Shared} (h : J 0 s) :
    wpAny (model prog w) A.in1 (Builtin.«list.__ne__» ⟨[.ref p, .ref q], []⟩) (GQ.FinOf prog w A R) (fun e s' => R (.error e) s') s := by
  obtain ⟨us, vs, n, n2, gp, gq, z1, z2, _⟩ := hj _ _ h
  have more := ne_turns (A := A) (R := R) p q N J hj last _ 0 rfl (Nat.zero_le _) s h
  obtain ⟨hp, g, d, tk, os⟩ := s
  have t3 := AutoSeq1.sub_list_list
  have nz : ¬ (us.size != vs.size) = true := by simp [z1, z2]
  wp_walk using wpAny_loadPart' gp, wpAny_loadPart' gq
  refine ⟨plainId_quiet plain_eq_loop _, codeAny_builtin entry_eq_loop ?_⟩
  rw [Around.under_plainId plain_eq_loop _]
  exact more
theorem ne_tuple (p q : Addr) (us vs : Array Value) (n n2 : Nat) (d1 d2 : Option Addr) (l1 l2 : Array (Option Value)) (hz : us.size = vs.size) (J : Nat → Shared → Prop)
    (tn : ∀ i (h1 : i < us.size) (h2 : i < vs.size) s, J i s → wpAny (model prog w) A.in1 (eqBool us[i] vs[i]) (fun r s' => r = true ∧ J (i + 1) s') (fun e s' => R (.error e) s') s)
    (last : ∀ s, J us.size s → R (.ok (.ret (.bool false))) s) {s : Shared} (gp : s.heap.get? p = some { cls := .type "tuple", dict := d1, data := .seq us n, slots := l1 }) (gq : s.heap.get? q = some { cls := .type "tuple", dict := d2, data := .seq vs n2, slots := l2 }) (h : J 0 s) :
    wpAny (model prog w) A.in1 (Builtin.«tuple.__ne__» ⟨[.ref p, .ref q], []⟩) (GQ.FinOf prog w A R) (fun e s' => R (.error e) s') s := by
  have t2 := AutoSeq1.sub_tuple_tuple
  have zz : (us.toList.zip vs.toList).length = us.size := by simp [hz]
  have h00 := h
  obtain ⟨hp, g, d, tk, os⟩ := s
  wp_walk using wpAny_loadPart' gp, wpAny_loadPart' gq, wpAny_forIn_list _ (fun rest b s' => b.1 = none ∧ ∃ i, rest = (us.toList.zip vs.toList).drop i ∧ i ≤ us.size ∧ J i s') _
  case turn =>
    rintro ⟨y, x⟩ rest b t ⟨eb, i, ez, hi, hJ⟩
    have lt : i < (us.toList.zip vs.toList).length := by
      refine Nat.lt_of_not_le fun z => ?_
      rw [List.drop_of_length_le z] at ez
      cases ez
    have lu : i < us.size := zz ▸ lt
    have lv : i < vs.size := hz ▸ lu
    rw [List.drop_eq_getElem_cons lt] at ez
    injection ez with e1 e2
    have ey : y = us[i] := by simpa using congrArg Prod.fst e1
    have ex : x = vs[i] := by simpa using congrArg Prod.snd e1
    subst ey ex
    refine wpAny_bind (wpAny_mono (tn i lu lv t hJ) (fun r t2 q2 => ?_) fun _ _ x => x)
    obtain ⟨rfl, q2⟩ := q2
    wp_walk
    exact ⟨rfl, i + 1, e2, lu, q2⟩
  case fin =>
    rintro ⟨b1, b2⟩ t ⟨eb, i, ez, hi, hJ⟩
    simp only at eb
    subst eb
    have ge : us.size ≤ i := by
      refine Nat.le_of_not_lt fun z => ?_
      rw [List.drop_eq_getElem_cons (zz ▸ z)] at ez
      cases ez
    have ei : i = us.size := by omega
    have hR : R (.ok (.ret (.bool false))) t := last t (ei ▸ hJ)
    wp_walk
    simpa [Builtin.Tuple.tupleCompareSizes, hz] using hR
  case h =>
    exact ⟨rfl, 0, rfl, Nat.zero_le _, h00⟩
end
section
variable {prog : Program} {w : World} {A : Around} {E : Value → Shared → Prop} {s : Shared}
theorem rc_listN {p q : Addr} {N : Nat} {Q : Value → Shared → Prop} (hu : A.units < cLine) (J : Nat → Shared → Prop) (hj : GQ.ListI prog w A E p q N J) (last : ∀ s, J N s → Q (.bool false) s) (h : J 0 s) : wpAny (model prog w) A (richCompare .NotEq (.ref p) (.ref q)) Q E s := by
  obtain ⟨us, vs, n, n2, gp, gq, _, _, _⟩ := hj _ _ h
  refine wpAny_richCompare_same_room (op := .NotEq) ⟨_, gp, rfl⟩ ⟨_, gq, rfl⟩ F.slot_list_ne (GQ.call_here F.slot_list_ne ⟨_, gp, rfl⟩ F.entry_list_ne (F.args_list_ne_2 _ _) ?_) hu
  exact ne_list (R := wants (fun v s' => v ≠ .notImplemented ∧ Q v s') E) p q N J hj (fun t hq => ⟨(fun x => nomatch x), last t hq⟩) h
theorem rc_tupN {p q : Addr} {us vs : Array Value} {Q : Value → Shared → Prop} (hz : us.size = vs.size) (hu : A.units < cLine) (J : Nat → Shared → Prop) (hp : s.heap.IsTuple p us) (hq : s.heap.IsTuple q vs)
    (tn : ∀ i (h1 : i < us.size) (h2 : i < vs.size) s, J i s → wpAny (model prog w) A.in1 (eqBool us[i] vs[i]) (fun r s' => r = true ∧ J (i + 1) s') E s) (last : ∀ s, J us.size s → Q (.bool false) s) (h : J 0 s) :
    wpAny (model prog w) A (richCompare .NotEq (.ref p) (.ref q)) Q E s := by
  obtain ⟨⟨c1, d1, x1, l1⟩, o1, e1, n1, g1⟩ := id hp
  obtain ⟨⟨c2, d2, x2, l2⟩, o2, e2, n2, g2⟩ := id hq
  simp only at e1 g1 e2 g2
  subst e1 g1 e2 g2
  refine wpAny_richCompare_same_room (op := .NotEq) ⟨_, o1, rfl⟩ ⟨_, o2, rfl⟩ F.slot_tuple_ne (GQ.call_here F.slot_tuple_ne ⟨_, o1, rfl⟩ F.entry_tuple_ne (F.args_tuple_ne_2 _ _) ?_) hu
  exact ne_tuple (R := wants (fun v s' => v ≠ .notImplemented ∧ Q v s') E) p q us vs n1 n2 d1 d2 l1 l2 hz J tn (fun t z => ⟨(fun x => nomatch x), last t z⟩) o1 o2 h
end
end Mch

/-! ## Lists and tuples with objects, seen to be equal -/
namespace Mch
open PySem PySem.Spec PyProof.Rows L2
section
variable {X : Cx} {g : Glob} {T : Tab} {W : WX} {k : Nat} {μ : Mem}
/-- the state has grown, the machine's memory stands -/
def Stands (X : Cx) (g : Glob) (μ : Mem) (pins : List (Addr × Obj)) (σ : L2.St) (φ : List Addr) (G H : Hp) (s' : Shared) : Prop := ∃ φ1 G1 H1, Inv X pins σ H1 s' ∧ Mch.Ext none φ G H φ1 G1 H1 ∧ Rel g φ1 G1 μ
/-- == inside a built-in gives True -/
def EqIn (X : Cx) (g : Glob) (μ : Mem) (m : Nat) (R : MV → MV → Prop) : Prop :=
  ∀ (A : Around) (pins : List (Addr × Obj)) (s : Shared) (σ : L2.St) (φ : List Addr) (G H : Hp) (x y : MV) (v w : V) (a b : Value), Room m A → A.frames = X.A.frames → R x y → Inv X pins σ H s → Rel g φ G μ → Mch.Sub G H → RV g φ G x v → RV g φ G y w → RelV v a → RelV w b →
    wpAny (model X.prog X.w) A (eqBool a b) (fun r s' => r = true ∧ Stands X g μ pins σ φ G H s') X.xe s
variable {R : MV → MV → Prop} {m : Nat} {A : Around} {pins : List (Addr × Obj)} {s : Shared} {σ : L2.St} {φ : List Addr} {G H : Hp}
theorem rv_at {x : MV} : ∀ {xs : List MV} {vs : List V} {i : Nat} {v : V}, RVs g φ G xs vs → xs[i]? = some x → vs[i]? = some v → RV g φ G x v
  | y :: xs, vs, i, v, h, e1, e2 => by
    simp only [RVs] at h
    obtain ⟨u, r, rfl, h1, h2⟩ := h
    cases i with
    | zero =>
      simp only [List.getElem?_cons_zero, Option.some.injEq] at e1 e2
      subst e1 e2
      exact h1
    | succ i =>
      rw [List.getElem?_cons_succ] at e1 e2
      exact rv_at h2 e1 e2
theorem one_turn (h : EqIn X g μ m R) (hr : Room (m + 1) A) (hf : A.frames = X.A.frames) {xs ys : List MV} {vs ws : List V} {us zs : List Value} (e : Each R xs ys) (φ' : List Addr) (G' H' : Hp) (s' : Shared) (I : Inv X pins σ H' s') (ex : Mch.Ext none φ G H φ' G' H') (r : Rel g φ' G' μ)
    (rx : RVs g φ' G' xs vs) (ry : RVs g φ' G' ys ws) (ra : Vals vs us) (rb : Vals ws zs) (i : Nat) (h1 : i < us.toArray.size) (h2 : i < zs.toArray.size) :
    wpAny (model X.prog X.w) A.in1 (eqBool us.toArray[i] zs.toArray[i]) (fun r s2 => r = true ∧ Stands X g μ pins σ φ G H s2) X.xe s' := by
  have l1 : i < us.length := by simpa using h1
  have l2 : i < zs.length := by simpa using h2
  have k1 : i < vs.length := by rw [ra.length]; exact l1
  have k2 : i < ws.length := by rw [rb.length]; exact l2
  have j1 : i < xs.length := by rw [rx.len]; exact k1
  have j2 : i < ys.length := by rw [ry.len]; exact k2
  obtain ⟨u, hu, ru⟩ := ra.get (List.getElem?_eq_getElem k1)
  obtain ⟨z, hz, rz⟩ := rb.get (List.getElem?_eq_getElem k2)
  have eu : us.toArray[i] = u := by
    rw [List.getElem?_eq_getElem l1] at hu
    simpa using hu
  have ez : zs.toArray[i] = z := by
    rw [List.getElem?_eq_getElem l2] at hz
    simpa using hz
  rw [eu, ez]
  refine wpAny_mono (h A.in1 pins s' σ φ' G' H' _ _ _ _ u z hr.in1 hf (e.2 i _ _ (List.getElem?_eq_getElem j1) (List.getElem?_eq_getElem j2)) I r ex.sub (rv_at rx (List.getElem?_eq_getElem j1) (List.getElem?_eq_getElem k1)) (rv_at ry (List.getElem?_eq_getElem j2) (List.getElem?_eq_getElem k2)) ru rz) (fun r s2 hs => ?_) fun _ _ q => q
  obtain ⟨rfl, φ2, G2, H2, I2, e2, r2⟩ := hs
  exact ⟨rfl, φ2, G2, H2, I2, ex.trans e2, r2⟩
/-- lists: what their loop asks -/
theorem lists_of (hK : g.K = X.K) (h : EqIn X g μ m R) (hr : Room (m + 1) A) (hf : A.frames = X.A.frames) {i j : Nat} {xs ys : List MV} {p q : Addr} (e : Each R xs ys) (m1 : μ[i]? = some (.lst xs)) (m2 : μ[j]? = some (.lst ys)) (p1 : φ[i]? = some p) (p2 : φ[j]? = some q) :
    GQ.ListI X.prog X.w A X.xe p q xs.length fun _ s' => Stands X g μ pins σ φ G H s' := fun n s' hs => by
  obtain ⟨φ', G', H', I, ex, r⟩ := id hs
  obtain ⟨vs, g1, rx⟩ := r.cell i p _ (pre_get ex.pre p1) m1
  obtain ⟨ws, g2, ry⟩ := r.cell j q _ (pre_get ex.pre p2) m2
  obtain ⟨_, us, n1, ra, e1⟩ := I.hok p _ (ex.sub _ _ g1)
  obtain ⟨_, zs, n2, rb, e2⟩ := I.hok q _ (ex.sub _ _ g2)
  refine ⟨us.toArray, zs.toArray, n1, n2, e1, e2, by rw [List.size_toArray, ← ra.length, ← rx.len], by rw [List.size_toArray, ← rb.length, ← ry.len, ← e.1], fun h1 h2 => ?_⟩
  exact one_turn h hr hf e φ' G' H' s' I ex r rx ry ra rb n h1 h2
/-- a comparison of two tuples, by their items -/
theorem tups_of {P : Value → Prop} {op : CmpOp} {k : Bool} (hop : op = .Eq ∧ k = true ∨ op = .NotEq ∧ k = false) (hK : g.K = X.K) (h : EqIn X g μ m R) (hr : Room (m + 1) A) (hf : A.frames = X.A.frames) {xs ys : List MV} {p q : Addr} {vs ws : List V} (e : Each R xs ys)
    (I : Inv X pins σ H s) (r : Rel g φ G μ) (sb : Mch.Sub G H) (g1 : SqT g.K G p vs) (g2 : SqT g.K G q ws) (rx : RVs g φ G xs vs) (ry : RVs g φ G ys ws) :
    wpAny (model X.prog X.w) A (richCompare op (.ref p) (.ref q)) (fun z s' => z = .bool k ∧ Stands X g μ pins σ φ G H s') X.xe s := by
  rw [hK] at g1 g2
  obtain ⟨us, ra, i1, _⟩ := I.tuple (sqT_sub sb g1)
  obtain ⟨zs, rb, i2, _⟩ := I.tuple (sqT_sub sb g2)
  have hz : us.toArray.size = zs.toArray.size := by
    rw [List.size_toArray, List.size_toArray, ← ra.length, ← rb.length, ← rx.len, ← ry.len]
    exact e.1
  have st0 : Stands X g μ pins σ φ G H s := ⟨φ, G, H, I, Mch.Ext.refl sb, r⟩
  have tn : ∀ i (h1 : i < us.toArray.size) (h2 : i < zs.toArray.size) s', Stands X g μ pins σ φ G H s' → wpAny (model X.prog X.w) A.in1 (eqBool us.toArray[i] zs.toArray[i]) (fun r s' => r = true ∧ Stands X g μ pins σ φ G H s') X.xe s' := fun i h1 h2 s' hs => by
    obtain ⟨φ', G', H', I', ex, r'⟩ := hs
    exact one_turn h hr hf e φ' G' H' s' I' ex r' (RVs.mono ex.pre ex.keep _ _ rx) (RVs.mono ex.pre ex.keep _ _ ry) ra rb i h1 h2
  rcases hop with ⟨rfl, rfl⟩ | ⟨rfl, rfl⟩
  · exact GQ.rc_tupG hz hr.units0 (fun _ s' => Stands X g μ pins σ φ G H s') i1 i2 tn (fun s' hs => ⟨rfl, hs⟩) st0
  · exact rc_tupN hz hr.units0 (fun _ s' => Stands X g μ pins σ φ G H s') i1 i2 tn (fun s' hs => ⟨rfl, hs⟩) st0
theorem lists_cmp {op : CmpOp} {k : Bool} (hop : op = .Eq ∧ k = true ∨ op = .NotEq ∧ k = false) (hK : g.K = X.K) (h : EqIn X g μ m R) (hr : Room (m + 1) A) (hf : A.frames = X.A.frames) {i j : Nat} {xs ys : List MV} {p q : Addr} (e : Each R xs ys) (m1 : μ[i]? = some (.lst xs)) (m2 : μ[j]? = some (.lst ys)) (p1 : φ[i]? = some p) (p2 : φ[j]? = some q)
    (I : Inv X pins σ H s) (r : Rel g φ G μ) (sb : Mch.Sub G H) : wpAny (model X.prog X.w) A (richCompare op (.ref p) (.ref q)) (fun z s' => z = .bool k ∧ Stands X g μ pins σ φ G H s') X.xe s := by
  have st0 : Stands X g μ pins σ φ G H s := ⟨φ, G, H, I, Mch.Ext.refl sb, r⟩
  have hl := lists_of (pins := pins) (σ := σ) (G := G) (H := H) hK h hr hf e m1 m2 p1 p2
  rcases hop with ⟨rfl, rfl⟩ | ⟨rfl, rfl⟩
  · exact GQ.rc_listG (N := xs.length) hr.units0 _ hl (fun s' hs => ⟨rfl, hs⟩) st0
  · exact rc_listN (N := xs.length) hr.units0 _ hl (fun s' hs => ⟨rfl, hs⟩) st0
/-- from the comparison of references to == inside -/
theorem eq_in {p q : Addr} (st0 : Stands X g μ pins σ φ G H s) (h : wpAny (model X.prog X.w) A (richCompare .Eq (.ref p) (.ref q)) (fun z s' => z = .bool true ∧ Stands X g μ pins σ φ G H s') X.xe s) :
    wpAny (model X.prog X.w) A (eqBool (.ref p) (.ref q)) (fun r s' => r = true ∧ Stands X g μ pins σ φ G H s') X.xe s := by
  by_cases e : p = q
  · subst e
    exact SeqAt.EqAt.same (A := A) (s := s) (.ref p) X.prog X.w X.xe _ ⟨rfl, st0⟩
  · refine GQ.eqBool_refG e (wpAny_mono h (fun z s' hz => ?_) fun _ _ q => q)
    obtain ⟨rfl, hs⟩ := hz
    exact ⟨true, rfl, rfl, hs⟩
theorem eqIn_same (hO : ObjX X g T W k) : ∀ n, EqIn X g μ (k + n) (sameO T μ n)
  | 0 => fun A pins s σ φ G H x y v w a b hr hf e => by simp only [sameO] at e
  | n + 1 => by
    intro A pins s σ φ G H x y v w a b hr hf e I r sb rx ry ra rb
    have ih := eqIn_same hO n
    have st0 : Stands X g μ pins σ φ G H s := ⟨φ, G, H, I, Mch.Ext.refl sb, r⟩
    have flat : flatM x = true ∧ flatM y = true ∧ eqF x y = true → wpAny (model X.prog X.w) A (eqBool a b) (fun r s' => r = true ∧ Stands X g μ pins σ φ G H s') X.xe s := fun ⟨f1, f2, f3⟩ => by
      have q := eqAt_V (A := A) (s := s) ra rb (flat_of f1 rx) (flat_of f2 ry)
      rw [← eqF_of f1 f2 rx ry, f3] at q
      exact q X.prog X.w X.xe _ ⟨rfl, st0⟩
    unfold sameO at e
    split at e
    · -- objects
      rename_i c vs d ws
      obtain ⟨rfl, f, hf', hc⟩ := e
      rw [hO.TP] at hf'
      obtain ⟨Cl, hl, he, hm⟩ := meth_get hf'
      have rx0 := rx
      have ry0 := ry
      simp only [RV] at rx ry
      obtain ⟨p, C, dx, fs, Cl1, rfl, h1, h2, _⟩ := rx
      obtain ⟨q, C', dy, gs, Cl2, rfl, h3, h4, _⟩ := ry
      rw [h1] at h3
      cases h3
      cases (show a = Value.ref p from ra)
      cases (show b = Value.ref q from rb)
      obtain ⟨fa, m1, m2, _⟩ := hO.o.meth c C Cl _ f h1 hl he hm
      rw [hO.K] at m2
      refine eq_in st0 ?_
      obtain ⟨ox, od, J⟩ := inst_of I (sb _ _ h2)
      obtain ⟨ox', od', J'⟩ := inst_of I (sb _ _ h4)
      obtain ⟨mm, hF⟩ := I.fr
      refine PySem.W.cmp_K (op := .Eq) (tb := .ref C) hr.units0 hF I.ok.mod.kin J J'.type (by simp [PySem.W.notFirst]) m2.at_ m2.fn ?_
      have e0 : Env0 X.prog X.w X.K X.mg X.base A X.stack s H := by
        have e := I.env0
        exact ⟨by rw [hf]; exact e.frames, e.mod, e.bs, e.bsz, e.funs, e.frf, e.hok, e.bare⟩
      refine wpAny_mono (wpAny_call (met_call_at (us := [.ref p, .ref q]) (vs := [.ref p, .ref q]) (Q := fun z H1 => z = .bl true ∧ ∃ φ1 G1, Mch.Ext none φ G H φ1 G1 H1 ∧ Rel g φ1 G1 μ) (hO.met f fa m1) (hr.mono (by omega)) e0 hO.tk I r sb (rvs_cons rx0 (rvs_cons ry0 rvs_nil)) (.cons rfl (.cons rfl .nil)) ?_)) (fun u s' hu => ?_) fun _ _ q => q
      · rw [hc]
        intro φ1 G1 H1 ex r1 z hz
        simp only [RV] at hz
        exact ⟨hz, φ1, G1, ex, r1⟩
      · obtain ⟨z, H', I', rz, rfl, φ1, G1, ex, r1⟩ := hu
        exact SlX.cmpback rz ⟨rz, φ1, G1, H', I', ex, r1⟩
    · -- tuples
      rename_i xs ys
      simp only [RV] at rx ry
      obtain ⟨p, vs, rfl, q1, r1⟩ := rx
      obtain ⟨q, ws, rfl, q2, r2⟩ := ry
      cases (show a = Value.ref p from ra)
      cases (show b = Value.ref q from rb)
      exact eq_in st0 (tups_of (P := fun _ => True) (.inl ⟨rfl, rfl⟩) hO.K ih hr hf e I r sb q1 q2 r1 r2)
    · rename_i i j
      obtain ⟨xs, ys, m1, m2, e⟩ := e
      simp only [RV] at rx ry
      obtain ⟨p, rfl, p1⟩ := rx
      obtain ⟨q, rfl, p2⟩ := ry
      cases (show a = Value.ref p from ra)
      cases (show b = Value.ref q from rb)
      exact eq_in st0 (lists_cmp (.inl ⟨rfl, rfl⟩) hO.K ih hr hf e m1 m2 p1 p2 I r sb)
    · exact flat e
end
end Mch

/-! ## Operators of objects: comparison, texts -/
namespace Mch
open PySem PySem.Spec PyProof.Rows L2
section
variable {X : Cx} {pins : List (Addr × Obj)} {s : Shared} {σ : L2.St} {g : Glob} {T : Tab} {φ : List Addr} {G H : Hp} {μ : Mem} {W : WX} {Q : VK} {k : Nat} {x y : MV} {v w : V} {a b : Value}
theorem isEq_of {op : CmpOp} {kb : Bool} (h : isEq op = some kb) : (op = .Eq ∧ kb = true ∨ op = .NotEq ∧ kb = false) ∧ ∀ a b, compareOp op a b = richCompare op a b := by
  cases op <;> simp only [isEq, reduceCtorEq, Option.some.injEq] at h <;> subst h
  · exact ⟨.inl ⟨rfl, rfl⟩, fun _ _ => rfl⟩
  · exact ⟨.inr ⟨rfl, rfl⟩, fun _ _ => rfl⟩
theorem cmpS_ok {op : CmpOp} {Q : Bool → Hp → Prop} (hO : ObjX X g T W k) (hu : X.A.units + 64 < cLine) (I : Inv X pins σ H s) (r : Rel g φ G μ) (sb : Sub G H) (h : Good g W σ φ G H (cmpS T μ op x y) fun kb _ _ _ H1 => Q kb H1) (rx : RV g φ G x v) (ry : RV g φ G y w) (ra : RelV v a) (rb : RelV w b)
    (hx : (∃ xs, x = .tup xs) ∨ ∃ i, x = .ref i) : wpAny (model X.prog X.w) X.A (compareOp op a b) (EP X pins σ fun z H1 => ∃ kb, z = .bl kb ∧ Q kb H1) X.xe s := by
  unfold cmpS at h
  split at h
  · rename_i kb hk
    exact cmp_ok hO.K hu I r sb hk rx ry ra rb ⟨kb, rfl, h.here sb r⟩
  · split at h
    · rename_i kb hk
      obtain ⟨hop, hcr⟩ := isEq_of hk
      split at h
      · rename_i hs
        rw [hcr]
        have fin : wpAny (model X.prog X.w) X.A (richCompare op a b) (fun z s' => z = .bool kb ∧ Stands X g μ pins σ φ G H s') X.xe s → wpAny (model X.prog X.w) X.A (richCompare op a b) (EP X pins σ fun z H1 => ∃ kb, z = .bl kb ∧ Q kb H1) X.xe s := fun hw => wpAny_mono hw (fun z s' hz => by
          obtain ⟨rfl, φ1, G1, H1, I1, ex, r1⟩ := hz
          exact ⟨.bl kb, H1, I1, rfl, kb, rfl, h φ1 G1 H1 ex r1⟩) fun _ _ q => q
        have hr : Room (k + 2 + 1) X.A := hO.hr4.mono (by omega)
        refine fin ?_
        rcases hx with ⟨xs, rfl⟩ | ⟨i, rfl⟩
        · cases y <;> simp only [sameO, flatM, Bool.false_eq_true, false_and, and_false] at hs
          rename_i ys
          simp only [RV] at rx ry
          obtain ⟨p, vs, rfl, q1, r1⟩ := rx
          obtain ⟨q, ws, rfl, q2, r2⟩ := ry
          cases (show a = Value.ref p from ra)
          cases (show b = Value.ref q from rb)
          exact tups_of (P := fun _ => True) hop hO.K (eqIn_same hO 2) hr rfl hs I r sb q1 q2 r1 r2
        · cases y <;> simp only [sameO, flatM, Bool.false_eq_true, false_and, and_false] at hs
          rename_i j
          obtain ⟨xs, ys, m1, m2, e⟩ := hs
          simp only [RV] at rx ry
          obtain ⟨p, rfl, p1⟩ := rx
          obtain ⟨q, rfl, p2⟩ := ry
          cases (show a = Value.ref p from ra)
          cases (show b = Value.ref q from rb)
          exact lists_cmp hop hO.K (eqIn_same hO 2) hr rfl e m1 m2 p1 p2 I r sb
      · exact h.elim
    · exact h.elim
theorem cmpT_ok {op : CmpOp} {Q : Bool → Hp → Prop} (hO : ObjX X g T W k) (hu : X.A.units + 64 < cLine) (I : Inv X pins σ H s) (r : Rel g φ G μ) (sb : Sub G H) (h : Good g W σ φ G H (cmpT T μ op x y) fun kb _ _ _ H1 => Q kb H1) (rx : RV g φ G x v) (ry : RV g φ G y w) (ra : RelV v a) (rb : RelV w b) :
    wpAny (model X.prog X.w) X.A (compareOp op a b) (EP X pins σ fun z H1 => ∃ kb, z = .bl kb ∧ Q kb H1) X.xe s := by
  unfold cmpT at h
  split at h
  · rename_i c vs
    split at h
    · rename_i hop
      have eop : op = .NotEq := by cases op <;> first | rfl | cases hop
      subst eop
      split at h
      · rename_i f hf
        split at h
        · rename_i ho
          rw [Bool.and_eq_true] at ho
          rw [hO.TP] at hf ho
          obtain ⟨Cl, hl, he, hm⟩ := meth_get hf
          have hne : Cl.meths.lookup ("__ne__" : Str) = none := by
            have := ho.1
            unfold methOf at this
            rw [hl, Option.bind_some, if_neg (by rw [he]; exact Bool.false_ne_true)] at this
            exact Option.isNone_iff_eq_none.mp this
          have rx0 := rx
          simp only [RV] at rx
          obtain ⟨p, C, dx, fs, Cl', rfl, hcc, hg, _⟩ := rx
          obtain ⟨fa, m1, m2, _⟩ := hO.o.meth c C Cl _ f hcc hl he hm
          have n1 := hO.o.ne c C Cl hcc hl he hne
          have n2 := hO.o.obj c C Cl hcc hl he
          rw [hO.K] at m2 n1 n2
          cases (show a = Value.ref p from ra)
          obtain ⟨ox, od, J⟩ := inst_of I (sb _ _ hg)
          obtain ⟨mm, hF⟩ := I.fr
          obtain ⟨tb, hty, hnf⟩ := othC_type hO I hcc hl he ho.2 r sb ry rb
          have hr1 : Room (k + 1) X.A.in1 := Room.in1 hO.hr2
          show wpAny _ _ (richCompare .NotEq (.ref p) b) _ _ _
          have hun := hr1.units0
          refine ne_K (by omega) hun hF I.ok.mod.kin J hty hnf n1 n2 m2.at_ m2.fn (wpAny_mono (wpAny_call (met_call_at (us := [.ref p, b]) (vs := [.ref p, w]) (Q := fun z H1 => ∃ kb, z = .bl kb ∧ Q (!kb) H1) (hO.met f fa m1) (hr1.mono (by omega)) I.env0.in1 hO.tk I r sb (rvs_cons rx0 (rvs_cons ry rvs_nil)) (.cons rfl (.cons rb .nil)) (h.bind.imp fun z μ1 φ1 G1 H1 e1 r1 kk u hu' => ?_))) (fun u s' hu' => ?_) fun _ _ e => e)
          · split at kk
            · simp only [RV] at hu'
              exact ⟨_, hu', kk.here e1.sub r1⟩
            · exact kk.elim
          · obtain ⟨z, H', I', rz, kb, rfl, q⟩ := hu'
            cases (show u = Value.bool kb from rz)
            exact ⟨kb, rfl, .bl (!kb), H', I', rfl, _, rfl, q⟩
        · exact h.elim
      · exact h.elim
    · split at h
      · rename_i f hf
        split at h
        · rename_i ho
          rw [hO.TP] at hf ho
          obtain ⟨m, hm0, hf⟩ := Option.bind_eq_some_iff.mp hf
          obtain ⟨q1, q2⟩ := cm_info hm0
          obtain ⟨Cl, hl, he, _⟩ := meth_get hf
          obtain ⟨p, C, fa, ox, od, rfl, hc, J, hm, c3, call⟩ := obj_call (ws := [y]) (vw := [w]) (bs := [b]) hO I r sb hf rx ra (rvs_cons ry rvs_nil) (.cons rb .nil)
          obtain ⟨mm, hF⟩ := I.fr
          obtain ⟨tb, hty, hnf⟩ := othC_type hO I hc hl he ho r sb ry rb
          have call2 : wpAny (model X.prog X.w) X.A (PySem.call (.ref fa) [.ref p, b]) (PySem.W.CmpBack (EP X pins σ fun z H1 => ∃ kb, z = .bl kb ∧ Q kb H1)) X.xe s := wpAny_mono (call (Q := fun z H1 => ∃ kb, z = .bl kb ∧ Q kb H1) (h.bind.imp fun z μ1 φ1 G1 H1 e1 r1 kk u hu => ?_)) (fun u s' hu => by
            obtain ⟨z, H', I', rz, q⟩ := hu
            exact SlX.cmpback rz ⟨z, H', I', rz, q⟩) fun _ _ e => e
          · rw [q1]
            rw [q2] at hm
            exact PySem.W.cmp_K (op := op) (by omega) hF I.ok.mod.kin J hty hnf hm.at_ hm.fn call2
          · split at kk
            · simp only [RV] at hu
              exact ⟨_, hu, kk.here e1.sub r1⟩
            · exact kk.elim
        · exact h.elim
      · exact h.elim
  · exact cmpS_ok hO hu I r sb h rx ry ra rb (.inl ⟨_, rfl⟩)
  · exact cmpS_ok hO hu I r sb h rx ry ra rb (.inr ⟨_, rfl⟩)
  · obtain ⟨kb, hk, q⟩ := Good.opt h sb r
    exact cmp_ok hO.K hu I r sb hk rx ry ra rb ⟨kb, rfl, q⟩
/-- str(x) -/
theorem strT_ok (hO : ObjX X g T W k) (hc : X.calm = true) (I : Inv X pins σ H s) (r : Rel g φ G μ) (sb : Sub G H) (h : Good g W σ φ G H (strT T μ x) (kE g Q)) (rx : RV g φ G x v) (ra : RelV v a) : wpAny (model X.prog X.w) X.A (PySem.call (.type "str") [a]) (EP X pins σ Q) X.xe s := by
  unfold strT at h
  split at h
  · rename_i c vs
    split at h
    · rename_i f hf
      rw [hO.TP] at hf
      obtain ⟨Cl, hl, he, hm⟩ := meth_get hf
      have rx0 := rx
      simp only [RV] at rx
      obtain ⟨p, C, dx, fs, Cl', rfl, hcc, hg, _⟩ := rx
      obtain ⟨fa, m1, m2, _⟩ := hO.o.meth c C Cl _ f hcc hl he hm
      rw [hO.K] at m2
      cases (show a = Value.ref p from ra)
      obtain ⟨ox, od, J⟩ := inst_of I (sb _ _ hg)
      have hr2 : Room k X.A.in1.in1 := (show Room (k + 1) X.A.in1 from Room.in1 hO.hr2).in1
      refine PySem.W.kso_call hr2.units0 I.kIn J m2.at_ m2.fn (wpAny_mono (wpAny_call (met_call_at (us := [.ref p]) (vs := [.ref p]) (Q := fun z H1 => ∃ y, z = .str y ∧ Q z H1) (hO.met f fa m1) hr2 I.env0.in1.in1 hO.tk I r sb (rvs_cons rx0 rvs_nil) (.cons rfl .nil) (h.bind.imp fun z μ1 φ1 G1 H1 e1 r1 kk u hu => ?_))) (fun u s' hu => ?_) fun _ _ e => e)
      · split at kk
        · have hu0 := hu
          simp only [RV] at hu
          exact ⟨_, hu, kk.here e1.sub r1 _ hu0⟩
        · exact kk.elim
      · obtain ⟨z, H', I', rz, y, rfl, q⟩ := hu
        obtain ⟨t, e⟩ := (show ∃ t, u = Value.str y t from rz)
        subst e
        exact ⟨.str y, H', I', ⟨t, rfl⟩, q⟩
    · exact h.elim
  · exact bi_ok (W := W) hc hO.K I r sb h (rvs_cons rx rvs_nil) (.cons ra .nil)
/-- a value's text in an f-string -/
theorem fmtT_ok (hO : ObjX X g T W k) (I : Inv X pins σ H s) (r : Rel g φ G μ) (sb : Sub G H) {c : Nat} {vs : List MV} (h : Good g W σ φ G H (strT T μ (.obj c vs)) (kE g Q)) (rx : RV g φ G (.obj c vs) v) (ra : RelV v a) : wpAny (model X.prog X.w) X.A (formatField a Str.empty) (EP X pins σ Q) X.xe s := by
  unfold strT at h
  simp only at h
  split at h
  · rename_i f hf
    rw [hO.TP] at hf
    obtain ⟨Cl, hl, he, hm⟩ := meth_get hf
    have rx0 := rx
    simp only [RV] at rx
    obtain ⟨p, C, dx, fs, Cl', rfl, hcc, hg, _⟩ := rx
    obtain ⟨fa, m1, m2, _⟩ := hO.o.meth c C Cl _ f hcc hl he hm
    have n1 := hO.o.fmt c C Cl hcc hl he
    have n2 := hO.o.obj c C Cl hcc hl he
    rw [hO.K] at m2 n1 n2
    cases (show a = Value.ref p from ra)
    obtain ⟨ox, od, J⟩ := inst_of I (sb _ _ hg)
    have hr1 : Room (k + 1) X.A.in1 := Room.in1 hO.hr2
    have I' := I.tok (s.toks + 1)
    refine PySem.W.kfo_fieldS hr1.units0 I.kIn J n1 n2 m2.at_ m2.fn (wpAny_mono (wpAny_call (met_call_at (s := { s with toks := s.toks + 1 }) (us := [.ref p]) (vs := [.ref p]) (Q := fun z H1 => ∃ y, z = .str y ∧ Q z H1) (hO.met f fa m1) (hr1.mono (by omega)) I'.env0.in1 hO.tk I' r sb (rvs_cons rx0 rvs_nil) (.cons rfl .nil) (h.bind.imp fun z μ1 φ1 G1 H1 e1 r1 kk u hu => ?_))) (fun u s' hu => ?_) fun _ _ e => e)
    · split at kk
      · have hu0 := hu
        simp only [RV] at hu
        exact ⟨_, hu, kk.here e1.sub r1 _ hu0⟩
      · exact kk.elim
    · obtain ⟨z, H', I', rz, y, rfl, q⟩ := hu
      obtain ⟨t, e⟩ := (show ∃ t, u = Value.str y t from rz)
      subst e
      exact ⟨.str y, H', I', ⟨t, rfl⟩, q⟩
  · exact h.elim
end
end Mch

/-! ## Expressions with objects -/
namespace Mch
open PySem PySem.Spec PyProof.Rows L2
section
variable {X : Cx} {g : Glob} {T : Tab} {W : WX} {md : Md} {a b c : PySem.Expr} {A B C : E} {pos : Pos} {k : Nat}
theorem se_obin {op : Operator} (hO : ObjX X g T W k) (hn : ∀ c, methOf g.P c "-" = none) (ha : PE X a (tE g T W md A)) (hb : PE X b (tE g T W md B)) : PE X (.BinOp a op b pos) (tE g T W md (.obin op A B)) := by
  refine ⟨fun pins s σ H Q I h => ?_⟩
  obtain ⟨φ, G, μ, σm, sb, r, e, h⟩ := h
  simp only [evE] at h
  refine wpAny_BinOp (bin ha hb (R := fun x y H2 => ∃ φ G μ v u, Sub G H2 ∧ Rel g φ G μ ∧ RV g φ G v x ∧ RV g φ G u y ∧ Good g W σ φ G H2 (binT T μ op v u) (kE g Q)) I ⟨φ, G, μ, σm, sb, r, e, h.bind.imp fun v μ1 φ1 G1 H1 e1 r1 k w hw =>
    ⟨φ1, G1, μ1, σm, e1.sub, r1, e.ext e1, k.bind.imp fun u μ2 φ2 G2 H2 e2 r2 k w' hw' => ⟨φ2, G2, μ2, v, u, e2.sub, r2, hw.ext e2, hw', k⟩⟩⟩ fun v u s2 x y H2 I2 rx ry q => ?_)
  obtain ⟨φ2, G2, μ2, v', u', sb2, r2, rv, ru, q⟩ := q
  exact binT_ok hO hn I2 r2 sb2 q rv ru rx ry
theorem se_oneg (hO : ObjX X g T W k) (ha : PE X a (tE g T W md A)) : PE X (.UnaryOp .USub a pos) (tE g T W md (.oneg A)) := by
  refine ⟨fun pins s σ H Q I h => ?_⟩
  obtain ⟨φ, G, μ, σm, sb, r, e, h⟩ := h
  simp only [evE] at h
  have ho : ∀ (pins : List (Addr × Obj)) (s : Shared) (H : Hp) (x : V) (v : Value), Inv X pins σ H s → RelV x v → (∃ φ G μ z, Sub G H ∧ Rel g φ G μ ∧ RV g φ G z x ∧ Good g W σ φ G H (negT T μ z) (kE g Q)) → wpAny (model X.prog X.w) X.A (unaryOp .USub v) (EP X pins σ Q) X.xe s := fun pins s H x v I rx q => by
    obtain ⟨φ2, G2, μ2, z, sb2, r2, rz, q⟩ := q
    exact negT_ok hO I r2 sb2 q rz rx
  have hE : tE g T W md A σ H (fun x H1 => ∃ φ G μ z, Sub G H1 ∧ Rel g φ G μ ∧ RV g φ G z x ∧ Good g W σ φ G H1 (negT T μ z) (kE g Q)) := ⟨φ, G, μ, σm, sb, r, e, h.bind.imp fun v μ1 φ1 G1 H1 e1 r1 k w hw => ⟨φ1, G1, μ1, v, e1.sub, r1, hw, k⟩⟩
  exact UnaryOp_ (thn (ha.run pins s σ H _ I hE) fun u s1 ⟨x, H1, I1, rx, q⟩ => ho pins s1 H1 x u I1 rx q)
/-- two values compared, whatever stands behind -/
def rO (g : Glob) (T : Tab) (W : WX) (σ : L2.St) (op : CmpOp) (Q : Bool → Hp → Prop) : V → V → Hp → Prop := fun x y H2 => ∃ φ G μ v u, Sub G H2 ∧ Rel g φ G μ ∧ RV g φ G v x ∧ RV g φ G u y ∧ Good g W σ φ G H2 (cmpT T μ op v u) fun kb _ _ _ H1 => Q kb H1
theorem se_ocmp {op : CmpOp} (hO : ObjX X g T W k) (hu : X.A.units + 64 < cLine) (hm : notSet b = true) (ha : PE X a (tE g T W md A)) (hb : PE X b (tE g T W md B)) : PE X (.Compare a [op] [b] pos) (tE g T W md (.ocmp op A B)) := by
  refine ⟨fun pins s σ H Q I h => ?_⟩
  obtain ⟨φ, G, μ, σm, sb, r, e, h⟩ := h
  simp only [evE] at h
  refine wpAny_Compare1 (bin ha hb (R := rO g T W σ op fun kb H1 => Q (.bl kb) H1) I ⟨φ, G, μ, σm, sb, r, e, h.bind.imp fun v μ1 φ1 G1 H1 e1 r1 k w hw =>
    ⟨φ1, G1, μ1, σm, e1.sub, r1, e.ext e1, k.bind.imp fun u μ2 φ2 G2 H2 e2 r2 k w' hw' => ⟨φ2, G2, μ2, v, u, e2.sub, r2, hw.ext e2, hw', k.bind.imp fun kb μ3 φ3 G3 H3 e3 r3 k => k.here e3.sub r3 _ (by simp only [RV])⟩⟩⟩ fun v u s2 x y H2 I2 rx ry q => ?_) (noSet_of hm)
  obtain ⟨φ2, G2, μ2, v', u', sb2, r2, rv, ru, q⟩ := q
  exact wpAny_mono (cmpT_ok hO hu I2 r2 sb2 q rv ru rx ry) (fun z s' hz => by
    obtain ⟨z', H', I', rz, kb, rfl, q⟩ := hz
    exact ⟨_, H', I', rz, q⟩) fun _ _ e => e
theorem st_ocmp {op : CmpOp} (hO : ObjX X g T W k) (hu : X.A.units + 64 < cLine) (hm : notSet b = true) (ha : PE X a (tE g T W md A)) (hb : PE X b (tE g T W md B)) : PT X (.Compare a [op] [b] pos) (tT g T W md (.ocmp op A B)) := by
  refine ⟨fun pins s σ H Q I h => ?_⟩
  obtain ⟨φ, G, μ, σm, sb, r, e, h⟩ := h
  have h : Good g W σ φ G H ((evE T A σm μ).bind fun x μ => (evE T B σm μ).bind fun y μ => cmpT T μ op x y) fun kb _ _ _ H1 => Q kb H1 := by
    simp only [evE] at h
    cases e1 : evE T A σm μ with
    | no => rw [e1] at h; exact h
    | exc x μ1 => rw [e1] at h; exact h
    | ok x μ1 =>
      rw [e1] at h
      simp only [R.bind] at h ⊢
      cases e2 : evE T B σm μ1 with
      | no => rw [e2] at h; exact h
      | exc x μ1 => rw [e2] at h; exact h
      | ok y μ2 =>
        rw [e2] at h
        simp only at h ⊢
        cases e3 : cmpT T μ2 op x y with
        | no => rw [e3] at h; exact h
        | exc x μ1 => rw [e3] at h; exact h
        | ok kb μ3 => rw [e3] at h; exact h
  refine wpAny_isTrue_Compare1 (thn (ha.run pins s σ H (fun x H1 => ∃ φ G μ v, Sub G H1 ∧ Rel g φ G μ ∧ RV g φ G v x ∧ RSt g φ G H1 md σm σ ∧ Good g W σ φ G H1 ((evE T B σm μ).bind fun y μ => cmpT T μ op v y) fun kb _ _ _ H1 => Q kb H1) I ⟨φ, G, μ, σm, sb, r, e, h.bind.imp fun v μ1 φ1 G1 H1 e1 r1 k w hw => ⟨φ1, G1, μ1, v, e1.sub, r1, hw, e.ext e1, k⟩⟩) fun v s1 ⟨x, H1, I1, r1, q1⟩ => ?_) (noSet_of hm)
  obtain ⟨φ1, G1, μ1, x', sb1, rl1, rx, en1, q1⟩ := q1
  refine thn (hb.run pins s1 σ H1 (rO g T W σ op Q |> fun f y H2 => f x y H2) I1 ⟨φ1, G1, μ1, σm, sb1, rl1, en1, q1.bind.imp fun u μ2 φ2 G2 H2 e2 r2 k w' hw' => ⟨φ2, G2, μ2, x', u, e2.sub, r2, rx.ext e2, hw', k⟩⟩) fun u s2 ⟨y, H2, I2, r2, q2⟩ => ?_
  obtain ⟨φ2, G2, μ2, v', u', sb2, rl2, rv, ru, q2⟩ := q2
  refine thn (cmpT_ok hO hu I2 rl2 sb2 q2 rv ru r1 r2) fun c s3 ⟨z, H3, I3, r3, k, e, q3⟩ => ?_
  subst e
  cases r3
  exact wpAny_truthy_bool ⟨H3, I3, q3⟩
/-! ### methods -/
theorem few_ok {es : List PySem.Expr} {env : PySem.Env} (hp : es.all plain = true) (hl : es.length < 30) : methodCallForm (es.length + ([] : List Keyword).length) (backTo pos (starEach es env)) (backToKw pos (keywordEach [] env)) = true := by
  cases es with
  | nil => rfl
  | cons e es => exact few_of hp hl
theorem meth_form {o : PySem.Expr} {m : Str} {apos : Pos} {es : List PySem.Expr} {env : PySem.Env} (hb : notCall0 o = true) (hline : (apos.endLine == pos.line) = true) (hp : es.all plain = true) (hl : es.length < 30) : eval (.Call (.Attribute o m apos) es [] pos) env = (do
      let ov ← eval o env
      standAt apos.atName
      let (f, first) ← holding [ov] (getMethod ov m (do return (← importBound o env).getD true))
      callWith pos f first (backTo pos (starEach es env)) (backToKw pos (keywordEach [] env))) := by
  show (do
    let ov ← attributeBase o m env (eval o env)
    standAt apos.atName
    methodCall o m apos pos env ov (es.length + ([] : List Keyword).length) (backTo pos (starEach es env)) (backToKw pos (keywordEach [] env))) = _
  rw [attr_base hb]
  unfold methodCall
  rw [few_ok hp hl]
  unfold calleeOf methodCallPos
  simp only [if_true, hline, Bool.not_true, Bool.false_or, pure_bind]
theorem lookup_none {fs : List (Str × V)} {m : Str} (h : (fs.map (·.1)).contains m = false) : fs.lookup m = none := by
  induction fs with
  | nil => rfl
  | cons p fs ih =>
    rw [List.map_cons, List.contains_cons, Bool.or_eq_false_iff] at h
    rw [List.lookup_cons, h.1]
    exact ih h.2
theorem se_omth {o : PySem.Expr} {m : Str} {apos : Pos} {es : List PySem.Expr} {O : E} {As : List E} (hO : ObjX X g T W k) (hb : notCall0 o = true) (hline : (apos.endLine == pos.line) = true) (hp : es.all plain = true) (hl : es.length < 30) (hlen : es.length = As.length) (ho : PE X o (tE g T W md O)) (ha : PA X es (tEs g T W md As)) :
    PE X (.Call (.Attribute o m apos) es [] pos) (tE g T W md (.omth m O As)) := by
  refine ⟨fun pins s σ H Q I h => ?_⟩
  obtain ⟨φ, G, μ, σm, sb, r, e, h⟩ := h
  simp only [evE] at h
  refine PySem.W.methodCall_KW (thn (ho.run pins s σ H (fun x H1 => ∃ φ G μ z, Sub G H1 ∧ Rel g φ G μ ∧ RV g φ G z x ∧ RSt g φ G H1 md σm σ ∧ Good g W σ φ G H1 (match z with
    | .obj c vs => (match methOf T.P c m with
      | some f => (evEs T As σm μ).bind fun xs μ => T.call f (.obj c vs :: xs) μ
      | none => .no)
    | _ => .no) (kE g Q)) I ⟨φ, G, μ, σm, sb, r, e, h.bind.imp fun v μ1 φ1 G1 H1 e1 r1 k w hw => ⟨φ1, G1, μ1, v, e1.sub, r1, hw, e.ext e1, k⟩⟩) fun u s1 ⟨x, H1, I1, rx, q⟩ => ?_) (meth_form hb hline hp hl)
  obtain ⟨φ1, G1, μ1, z, sb1, r1, rz, e1, q⟩ := q
  split at q
  · rename_i c vs
    split at q
    · rename_i f hf
      rw [hO.TP] at hf
      obtain ⟨Cl, hcl, he, hm⟩ := meth_get hf
      have rz0 := rz
      simp only [RV] at rz
      obtain ⟨p, C, dx, fs, Cl', rfl, hc, hg, hcl', hfn, _⟩ := rz
      rw [hcl] at hcl'
      cases hcl'
      obtain ⟨c1, c2, c3⟩ := hO.o.cls c C Cl hc hcl he
      obtain ⟨fa, m1, m2, m3⟩ := hO.o.meth c C Cl m f hc hcl he hm
      rw [hO.K] at c1 m2
      cases (show u = Value.ref p from rx)
      refine getmeth_ok I1 (sb1 _ _ hg) c1 m2 (lookup_none (by rw [hfn]; exact m3)) ?_
      have fin : ∀ {pins : List (Addr × Obj)} {s2 : Shared} {us : List Value} {ws : List V} {H2 : Hp}, Inv X pins σ H2 s2 → Vals ws us → (∃ φ G μ xs, Sub G H2 ∧ Rel g φ G μ ∧ RV g φ G (.obj c vs) (.ref p) ∧ RVs g φ G xs ws ∧ Good g W σ φ G H2 (T.call f (.obj c vs :: xs) μ) (kE g Q)) → wpAny (model X.prog X.w) X.A (PySem.call (.ref fa) (.ref p :: us)) (EP X pins σ Q) X.xe s2 := fun I2 rw' q => by
        obtain ⟨φ2, G2, μ2, xs, sb2, r2, rz2, rxs, q⟩ := q
        exact met_call (vs := .ref p :: _) (hO.met f fa m1) hO.hr hO.tk I2 r2 sb2 (rvs_cons rz2 rxs) (.cons rfl rw') q
      cases es with
      | nil =>
        have e0 : As = [] := List.length_eq_zero_iff.mp hlen.symm
        subst e0
        simp only [evEs, R.bind] at q
        exact PySem.W.callWith_K0 (first := [.ref p]) I1.kIn m2.kp (fin (us := []) I1 .nil ⟨φ1, G1, μ1, [], sb1, r1, rz0, rvs_nil, q⟩)
      | cons e0 es =>
        rw [List.all_cons, Bool.and_eq_true] at hp
        refine PySem.W.callWith_K (first := [.ref p]) (h₀ := X.base) I.ok.mod.kin m2.kp (thn (ha.run pos pins s1 σ H1 (fun ws H2 => ∃ φ G μ xs, Sub G H2 ∧ Rel g φ G μ ∧ RV g φ G (.obj c vs) (.ref p) ∧ RVs g φ G xs ws ∧ Good g W σ φ G H2 (T.call f (.obj c vs :: xs) μ) (kE g Q)) I1 ⟨φ1, G1, μ1, σm, sb1, r1, e1, q.bind.imp fun xs μ2 φ2 G2 H2 e2 r2 k ws hws => ⟨φ2, G2, μ2, xs, e2.sub, r2, rz0.ext e2, hws, k⟩⟩) fun us s2 ⟨ws, H2, I2, rr, q2⟩ => ⟨I2.kIn, fin I2 rr q2⟩) (star_cons hp.1) (star_any hp.2)
    · exact q.elim
  · exact q.elim
/-! ### f-strings -/
theorem se_fmt (hO : ObjX X g T W k) (ha : PE X a (tE g T W md A)) : PE X (.FormattedValue a (-1) none pos) (tE g T W md (.fmt A)) := by
  refine ⟨fun pins s σ H Q I h => ?_⟩
  obtain ⟨φ, G, μ, σm, sb, r, e, h⟩ := h
  simp only [evE] at h
  refine wpAny_FormattedValue_plain (thn (ha.run pins s σ H (fun x H1 => ∃ φ G μ z, Sub G H1 ∧ Rel g φ G μ ∧ RV g φ G z x ∧ Good g W σ φ G H1 (fmtT T μ z) (kE g Q)) I ⟨φ, G, μ, σm, sb, r, e, h.bind.imp fun v μ1 φ1 G1 H1 e1 r1 k w hw => ⟨φ1, G1, μ1, v, e1.sub, r1, hw, k⟩⟩) fun u s1 ⟨x, H1, I1, rx, q⟩ => ?_)
  obtain ⟨φ1, G1, μ1, z, sb1, r1, rz, q⟩ := q
  unfold fmtT at q
  split at q
  · exact fmtT_ok hO I1 r1 sb1 q rz rx
  · unfold fmtM at q
    split at q
    · split at q
      · rename_i hz
        simp only [RV] at rz
        subst rz
        obtain ⟨t, rfl⟩ := (show ∃ t, u = Value.str _ t from rx)
        exact wpAny_formatField_str ⟨.str _, H1, I1, ⟨t, rfl⟩, q.here sb1 r1 _ (by simp only [RV])⟩ ⟨.str _, H1, I1.tok _, ⟨_, rfl⟩, q.here sb1 r1 _ (by simp only [RV])⟩ hz
      · exact q.elim
    · split at q
      · rename_i hz
        simp only [RV] at rz
        subst rz
        obtain ⟨t, rfl⟩ := (show ∃ t, u = Value.int _ t from rx)
        exact wpAny_formatField_int hz ⟨.str (toString _), H1, I1.tok _, ⟨_, rfl⟩, q.here sb1 r1 _ (by simp only [RV])⟩
      · exact q.elim
    · exact q.elim
/-! ### dicts of the top -/
/-- at D: a dict of ints by ints -/
def dcB (K : PySem.W.Frag) (D : Addr) (kvs : List (Int × Int)) : Bool := match K.lookup D with
  | some ⟨.type t, dd, .dict es _, sl⟩ => decide (t = "dict") && (dd.isNone && (decide (sl = #[]) && ((es.all fun e => match e.key with
    | .int i _ => decide (e.hash = hashInt i)
    | _ => false) && kvs.all fun p => match findBy Value.isInt es p.1 with
    | some (.int j _) => decide (j = p.2)
    | _ => false)))
  | _ => false
theorem dc_mem {i j : Int} : ∀ {kvs : List (Int × Int)}, kvs.lookup i = some j → (i, j) ∈ kvs
  | [], h => by cases h
  | (a, b) :: r, h => by
    rw [List.lookup_cons] at h
    split at h
    · rename_i e
      cases h
      rw [eq_of_beq e]
      exact List.mem_cons_self ..
    · exact List.mem_cons_of_mem _ (dc_mem h)
theorem dc_get {K : PySem.W.Frag} {D : Addr} {kvs : List (Int × Int)} {h : Heap} {P : Program} {w : World} (hd : dcB K D kvs = true) (hi : K.In h) {i j : Int} (hl : kvs.lookup i = some j) : ∃ f t, h.MapOf (intKind P w) D f ∧ f i = some (.int j t) := by
  unfold dcB at hd
  split at hd
  · rename_i t dd es ep sl hk
    simp only [Bool.and_eq_true, decide_eq_true_eq] at hd
    obtain ⟨rfl, h1, rfl, h2, h3⟩ := hd
    have e0 := Option.isNone_iff_eq_none.mp h1
    subst e0
    have hm := List.all_eq_true.mp h3 (i, j) (dc_mem hl)
    simp only at hm
    split at hm
    · rename_i j' t hf
      have e1 := of_decide_eq_true hm
      subst e1
      refine ⟨fun k => findBy Value.isInt es k, t, ⟨_, es, ep, hi _ _ hk, ⟨rfl, rfl, rfl⟩, rfl, fun e he => ?_, fun k => rfl⟩, hf⟩
      have := (Array.all_eq_true_iff_forall_mem.mp h2) e he
      split at this
      · rename_i i' t' hk'
        refine ⟨i', ?_, of_decide_eq_true this⟩
        show Value.isInt i' e.key = true
        rw [hk']
        simp [Value.isInt]
      · cases this
    · cases hm
  · cases hd
theorem noSl_of {e : PySem.Expr} (h : notSlice e = true) : NoSl e := by
  intro ov iv
  cases e <;> first | rfl | cases h
theorem se_cdx {x : Str} {p : Pos} {D : Addr} {kvs : List (Int × Int)} {j : Nat} (hT : T.P = g.P) (hg : Gl X x) (hm : X.mg x = some (.ref D)) (hdb : (x == ("__debug__" : Str)) = false) (hd : dcB X.K D kvs = true) (hl : g.P.dcs[j]? = some kvs) (hn : notSlice b = true) (hb : PE X b (tE g T W md B)) :
    PE X (.Subscript (.Name x p) b pos) (tE g T W md (.cdx j B)) := by
  refine ⟨fun pins s σ H Q I h => ?_⟩
  obtain ⟨φ, G, μ, σm, sb, r, e, h⟩ := h
  simp only [evE] at h
  refine subD_of PySem.F.slot_dict_getitem.lookup (noSl_of hn) (ld_glob I hg hm ?_ hdb)
  refine thn (hb.run pins s σ H (fun y H1 => ∃ i z, y = .int i ∧ kvs.lookup i = some z ∧ Q (.int z) H1) I ⟨φ, G, μ, σm, sb, r, e, h.bind.imp fun v μ1 φ1 G1 H1 e1 r1 k w hw => ?_⟩) fun u s1 ⟨y, H1, I1, ry, i, z, ey, hz, q⟩ => ?_
  · split at k
    · rename_i i
      simp only [RV] at hw
      obtain ⟨z, hz, q⟩ := Good.opt k e1.sub r1
      rw [hT, hl, Option.bind_some] at hz
      obtain ⟨z', h1, rfl⟩ := Option.map_eq_some_iff.mp hz
      exact ⟨i, z', hw, h1, q _ (by simp only [RV])⟩
    · exact k.elim
  · subst ey
    obtain ⟨t, rfl⟩ := (show ∃ t, u = Value.int i t from ry)
    obtain ⟨f, t', hm', hf⟩ := dc_get (P := X.prog) (w := X.w) hd I1.kIn hz
    refine ⟨hm'.typeIs, wpAny_getItem_of (by show Value.isInt i (.int i t) = true; simp [Value.isInt]) hm' hf ?_⟩
    exact ⟨.int z, H1, I1.tok _, ⟨_, rfl⟩, q⟩
theorem fstr_read {As : List E} : ∀ {acc : Str} {σ : L2.St} {H : Hp} {Q : Str → Hp → Prop}, (∃ φ G μ σm, Sub G H ∧ Rel g φ G μ ∧ RSt g φ G H md σm σ ∧ Good g W σ φ G H (evF T As acc σm μ) fun y _ _ _ H1 => Q y H1) → tJs (As.map fun A => tE g T W md A) acc σ H Q := by
  induction As with
  | nil =>
    rintro acc σ H Q ⟨φ, G, μ, σm, sb, r, e, h⟩
    simp only [evF] at h
    exact h.here sb r
  | cons A As ih =>
    rintro acc σ H Q ⟨φ, G, μ, σm, sb, r, e, h⟩
    simp only [evF] at h
    refine ⟨φ, G, μ, σm, sb, r, e, h.bind.imp fun v μ1 φ1 G1 H1 e1 r1 k w hw => ?_⟩
    split at k
    · split at k
      · rename_i hz
        simp only [RV] at hw
        exact ⟨_, hw, hz, ih ⟨φ1, G1, μ1, σm, e1.sub, r1, e.ext e1, k⟩⟩
      · exact k.elim
    · exact k.elim
theorem se_fstr {v1 v2 : PySem.Expr} {rest : List PySem.Expr} {As : List E} (h : PJ X (v1 :: v2 :: rest) (As.map fun A => tE g T W md A)) : PE X (.JoinedStr (v1 :: v2 :: rest) pos) (tE g T W md (.fstr As)) := by
  refine ⟨fun pins s σ H Q I hh => (pe_joined h).run pins s σ H Q I (fstr_read ?_)⟩
  obtain ⟨φ, G, μ, σm, sb, r, e, hh⟩ := hh
  simp only [evE] at hh
  exact ⟨φ, G, μ, σm, sb, r, e, hh.bind.imp fun y μ1 φ1 G1 H1 e1 r1 k => k.here e1.sub r1 _ (by simp only [RV])⟩
theorem se_ostr {p : Pos} (hO : ObjX X g T W k) (hc : X.calm = true) (hg : Gl X "str") (hm : X.mg "str" = none) (hp : plain a = true) (ha : PE X a (tE g T W md A)) : PE X (.Call (.Name "str" p) [a] [] pos) (tE g T W md (.ostr A)) := by
  refine ⟨fun pins s σ H Q I h => ?_⟩
  obtain ⟨φ, G, μ, σm, sb, r, e, h⟩ := h
  simp only [evE] at h
  refine wpAny_Call_Name_kw (ld_blt I hg hm (u := .type "str") (by decide +kernel) ?_ (by decide) (by decide))
  refine PyProof.Rows.callWith_type1 (thn ((sa_cons hp ha sa_nil).run pos pins s σ H (fun vs H1 => ∃ φ G μ z v, vs = [v] ∧ Sub G H1 ∧ Rel g φ G μ ∧ RV g φ G z v ∧ Good g W σ φ G H1 (strT T μ z) (kE g Q)) I ⟨φ, G, μ, σm, sb, r, e, ?_⟩) fun us s1 ⟨vs, H1, I1, rr, q⟩ => ?_) (star_cons hp) (star_any (by simp [hp]))
  · simp only [evEs]
    cases e0 : evE T A σm μ with
    | no => rw [e0] at h; exact h.elim
    | exc x μ1 => rw [e0] at h; exact h
    | ok x μ1 =>
      rw [e0] at h
      intro φ1 G1 H1 x1 r1 ws hws
      obtain ⟨v, rfl, hv⟩ := hws.one
      exact ⟨φ1, G1, μ1, x, v, rfl, x1.sub, r1, hv, Good.ext (r := strT T μ1 x) h x1⟩
  · obtain ⟨φ1, G1, μ1, z, v, rfl, sb1, r1, rz, q⟩ := q
    obtain ⟨u, rfl, ru⟩ := rr.one
    exact strT_ok hO hc I1 r1 sb1 q rz ru
end
end Mch

/-! ## Targets, walks, comprehensions -/
namespace Mch
open PySem PySem.Spec PyProof.Rows L2
/-! ### storing into names -/
mutual
def tgSlots : E → List Nat
  | .var i => [i]
  | .tup ts => tgSlotss ts
  | _ => []
def tgSlotss : List E → List Nat
  | [] => []
  | t :: ts => tgSlots t ++ tgSlotss ts
end
/-- the slots is alone are stored -/
def Sto (is : List Nat) (σ σ' : L2.St) : Prop := σ'.length = σ.length ∧ ∀ i, i ∉ is → σ'[i]? = σ[i]?
theorem Sto.refl (σ : L2.St) : Sto [] σ σ := ⟨rfl, fun _ _ => rfl⟩
theorem Sto.trans {is js : List Nat} {σ σ1 σ2 : L2.St} (a : Sto is σ σ1) (b : Sto js σ1 σ2) : Sto (is ++ js) σ σ2 :=
  ⟨b.1.trans a.1, fun i h => by
    rw [List.mem_append, not_or] at h
    exact (b.2 i h.2).trans (a.2 i h.1)⟩
theorem Sto.one (σ : L2.St) (i : Nat) (v : V) : Sto [i] σ (σ.set i (some v)) :=
  ⟨by simp, fun j h => by
    rw [List.getElem?_set_ne]
    intro e
    exact h (by simp [e])⟩
theorem wipe_get : ∀ (vs : List Nat) (σ : L2.St) (j : Nat), (wipe σ vs)[j]? = if j ∈ vs ∧ j < σ.length then some none else σ[j]?
  | [], σ, j => by simp [wipe]
  | v :: vs, σ, j => by
    show ((wipe σ vs).set v none)[j]? = _
    rw [List.getElem?_set, wipe_length, wipe_get vs σ j]
    by_cases e : v = j
    · subst e
      by_cases hl : v < σ.length
      · simp [hl]
      · simp only [if_true, hl, if_false]
        rw [if_neg (by simp [hl])]
        exact (List.getElem?_eq_none (by omega)).symm
    · rw [if_neg e]
      have : (j ∈ v :: vs) ↔ j ∈ vs := by
        rw [List.mem_cons]
        constructor
        · rintro (h | h)
          · exact absurd h.symm e
          · exact h
        · exact .inr
      simp only [this]
theorem Sto.wipe {is vs : List Nat} {σ σ' : L2.St} (h : Sto is σ σ') (hs : ∀ i ∈ is, i ∈ vs) : L2.wipe σ' vs = L2.wipe σ vs := by
  apply List.ext_getElem?
  intro j
  rw [wipe_get, wipe_get, h.1]
  by_cases hj : j ∈ vs ∧ j < σ.length
  · rw [if_pos hj, if_pos hj]
  · rw [if_neg hj, if_neg hj]
    by_cases hl : j < σ.length
    · exact h.2 j fun z => hj ⟨hs j z, hl⟩
    · rw [List.getElem?_eq_none (show σ'.length ≤ j by rw [h.1]; omega), List.getElem?_eq_none (show σ.length ≤ j by omega)]
theorem wipe_wipe (vs : List Nat) (σ : L2.St) : L2.wipe (L2.wipe σ vs) vs = L2.wipe σ vs := by
  apply List.ext_getElem?
  intro j
  rw [wipe_get, wipe_get, wipe_length]
  split <;> rfl
theorem wipeM_length : ∀ (vs : List Nat) (σ : Env), (wipeM σ vs).length = σ.length
  | [], σ => rfl
  | v :: vs, σ => by
    show ((wipeM σ vs).set v none).length = _
    rw [List.length_set, wipeM_length]
theorem wipeM_some : ∀ {vs : List Nat} {σ : Env} {j : Nat} {v : MV}, (wipeM σ vs)[j]? = some (some v) → σ[j]? = some (some v) ∧ j ∉ vs
  | [], σ, j, v, h => ⟨h, by simp⟩
  | u :: vs, σ, j, v, h => by
    have h : ((wipeM σ vs).set u none)[j]? = some (some v) := h
    rw [List.getElem?_set] at h
    split at h
    · split at h
      · cases h
      · cases h
    · rename_i hne
      obtain ⟨h1, h2⟩ := wipeM_some h
      exact ⟨h1, by
        rw [List.mem_cons, not_or]
        exact ⟨fun e => hne e.symm, h2⟩⟩
theorem REnv.wipe {g : Glob} {φ : List Addr} {G : Hp} {md : Md} {σm : Env} {σ : L2.St} (h : REnv g φ G md σm σ) (vs : List Nat) : REnv g φ G md (wipeM σm vs) (L2.wipe σ vs) := by
  refine ⟨by rw [wipeM_length, wipe_length, h.1], fun i v e1 e2 => ?_⟩
  obtain ⟨e3, e4⟩ := wipeM_some e1
  obtain ⟨w, hw, r⟩ := h.2 i v e3 e2
  exact ⟨w, by rw [wipe_get, if_neg (fun z => e4 z.1)]; exact hw, r⟩
/-- a target of names -/
def gB (g : Glob) (md : Md) (tg : E) : TG := fun v σ H Q => ∃ φ G x σm σm', Sub G H ∧ RV g φ G x v ∧ REnv g φ G md σm σ ∧ bindT tg x σm = some σm' ∧ ∀ σ', REnv g φ G md σm' σ' → Sto (tgSlots tg) σ σ' → Q σ' H
def gBs (g : Glob) (md : Md) (tgs : List E) : TGs := fun vs σ H Q => ∃ φ G xs σm σm', Sub G H ∧ RVs g φ G xs vs ∧ REnv g φ G md σm σ ∧ bindT.go tgs xs σm = some σm' ∧ ∀ σ', REnv g φ G md σm' σ' → Sto (tgSlotss tgs) σ σ' → Q σ' H
theorem assign_cons {t : PySem.Expr} {ts : List PySem.Expr} {env : PySem.Env} (h : plain t = true) : assignEach (t :: ts) env = (false, assign t env) :: assignEach ts env := by
  cases t <;> first | rfl | cases h
theorem assign_len {env : PySem.Env} : ∀ {ts : List PySem.Expr}, ts.all plain = true → (assignEach ts env).length = ts.length ∧ (assignEach ts env).findIdx? (·.1) = none
  | [], _ => ⟨rfl, rfl⟩
  | t :: ts, h => by
    rw [List.all_cons, Bool.and_eq_true] at h
    obtain ⟨h1, h2⟩ := assign_len (env := env) h.2
    rw [assign_cons h.1]
    exact ⟨by simp [h1], by rw [List.findIdx?_cons, h2]; rfl⟩
section
variable {X : Cx} {g : Glob} {T : Tab} {W : WX} {md : Md} {pos : Pos}
theorem sg_var {i : Nat} {x : Str} (hN : X.N.Nodup) (hi : X.N[i]? = some x) (hx : Loc X.env.scope x) (hf : X.fn x = true ∨ X.env.scope.names.lookup x = some .local) : PG X (.Name x pos) (gB g md (.var i)) := by
  refine ⟨fun pins s σ H v u Q I r h => (pg_name hN hi hx hf).run pins s σ H v u Q I r ?_⟩
  obtain ⟨φ, G, x, σm, σm', sb, rv, e, hb, k⟩ := h
  simp only [bindT, Option.some.injEq] at hb
  subst hb
  exact k _ (e.set rv) (Sto.one _ _ _)
theorem sgs_nil : PGs X [] (gBs g md []) := by
  refine ⟨fun pins s σ H vs us Q I r h => pgs_nil.run pins s σ H vs us Q I r ?_⟩
  obtain ⟨φ, G, xs, σm, σm', sb, rv, e, hb, k⟩ := h
  cases xs with
  | nil =>
    simp only [RVs] at rv
    simp only [bindT.go, Option.some.injEq] at hb
    subst hb
    exact ⟨rv, k _ e (Sto.refl _)⟩
  | cons x xs => simp only [bindT.go] at hb; cases hb
theorem sgs_cons {t : PySem.Expr} {ts : List PySem.Expr} {A : E} {As : List E} (hp : plain t = true) (h1 : PG X t (gB g md A)) (h2 : PGs X ts (gBs g md As)) : PGs X (t :: ts) (gBs g md (A :: As)) := by
  refine ⟨fun pins s σ H vs us Q I r h => (pgs_cons h1 h2 (by rw [assign_cons hp]; rfl)).run pins s σ H vs us Q I r ?_⟩
  obtain ⟨φ, G, xs, σm, σm', sb, rv, e, hb, k⟩ := h
  cases xs with
  | nil => simp only [bindT.go] at hb; cases hb
  | cons x xs =>
    simp only [RVs] at rv
    obtain ⟨v, vr, rfl, hv, hr⟩ := rv
    simp only [bindT.go] at hb
    obtain ⟨σ1, hb1, hb2⟩ := Option.bind_eq_some_iff.mp hb
    exact ⟨v, vr, rfl, φ, G, x, σm, σ1, sb, hv, e, hb1, fun σ' e' st => ⟨φ, G, xs, σ1, σm', sb, hr, e', hb2, fun σ2 e2 st2 => k σ2 e2 (by
      simp only [tgSlotss]
      exact st.trans st2)⟩⟩
theorem sg_tup {ts : List PySem.Expr} {As : List E} {j : Nat} (hc : X.calm = true) (hK : g.K = X.K) (hp : ts.all plain = true) (hl : ts.length = As.length) (h : PGs X ts (gBs g md As)) : PG X (.Tuple ts j pos) (gB g md (.tup As)) := by
  obtain ⟨a1, a2⟩ := assign_len (env := X.env) hp
  refine ⟨fun pins s σ H v u Q I r hh => (pg_tup hc h rfl a2).run pins s σ H v u Q I r ?_⟩
  obtain ⟨φ, G, x, σm, σm', sb, rv, e, hb, k⟩ := hh
  simp only [bindT] at hb
  split at hb
  · rename_i xs
    split at hb
    · rename_i hlen
      simp only [RV] at rv
      obtain ⟨a, vs, rfl, hq, hr⟩ := rv
      rw [hK] at hq
      exact ⟨a, vs, rfl, sqT_sub sb hq, by rw [a1, hl, ← hr.len, hlen], φ, G, xs, σm, σm', sb, hr, e, hb, fun σ' e' st => k σ' e' (by simp only [tgSlots]; exact st)⟩
    · cases hb
  · cases hb
/-! ### walks -/
def ItR (g : Glob) (φ : List Addr) (G : Hp) : MV → It → Prop
  | .tup xs, J => ∃ a vs, J = Itt g.K a ∧ SqT g.K G a vs ∧ RVs g φ G xs vs
  | .ref i, J => ∃ a, J = Itl g.K a ∧ φ[i]? = some a
  | .rng lo n st, J => st = 1 ∧ J = Itr lo n
  | .str s, J => J = Its s
  | .zp (.tup xs) (.tup ys), J => ∃ a b vs ws, J = RZ.ItzT g.K a b ∧ SqT g.K G a vs ∧ SqT g.K G b ws ∧ RVs g φ G xs vs ∧ RVs g φ G ys ws
  | .zp (.ref i) (.ref j), J => ∃ a b, J = Itz g.K a b ∧ φ[i]? = some a ∧ φ[j]? = some b
  | _, _ => False
/-- what is zipped -/
theorem itr_zp {φ : List Addr} {G : Hp} {a b : MV} {J : It} (h : ItR g φ G (.zp a b) J) : (∃ xs ys, a = .tup xs ∧ b = .tup ys) ∨ ∃ i j, a = .ref i ∧ b = .ref j := by
  cases a <;> cases b <;> first
    | exact .inl ⟨_, _, rfl, rfl⟩
    | exact .inr ⟨_, _, rfl, rfl⟩
    | exact h.elim
theorem ItR.ext {φ φ1 : List Addr} {G G1 H H1 : Hp} {ex : Option Addr} {J : MV} {J' : It} (h : ItR g φ G J J') (e : Ext ex φ G H φ1 G1 H1) : ItR g φ1 G1 J J' := by
  cases J with
  | tup xs =>
    obtain ⟨a, vs, h1, h2, h3⟩ := h
    exact ⟨a, vs, h1, sqT_keep e.keep h2, h3.ext e⟩
  | ref i =>
    obtain ⟨a, h1, h2⟩ := h
    exact ⟨a, h1, pre_get e.pre h2⟩
  | rng lo n st => exact h
  | str s => exact h
  | zp x y =>
    rcases itr_zp h with ⟨xs, ys, rfl, rfl⟩ | ⟨i, j, rfl, rfl⟩
    · obtain ⟨a, b, vs, ws, h1, h2, h3, h4, h5⟩ := h
      exact ⟨a, b, vs, ws, h1, sqT_keep e.keep h2, sqT_keep e.keep h3, h4.ext e, h5.ext e⟩
    · obtain ⟨a, b, h1, h2, h3⟩ := h
      exact ⟨a, b, h1, pre_get e.pre h2, pre_get e.pre h3⟩
  | _ => exact h.elim
theorem nth_zn {μ : Mem} {a b : MV} {i : Nat} (h : nth μ (.zp a b) i = some none) : ∃ o1 o2, nth μ a i = some o1 ∧ nth μ b i = some o2 ∧ (o1 = none ∨ o2 = none) := by
  simp only [nth] at h
  split at h
  · cases h
  · rename_i o1 o2 hne e1 e2
    refine ⟨_, _, e1, e2, ?_⟩
    cases o1 with
    | none => exact .inl rfl
    | some x =>
      cases o2 with
      | none => exact .inr rfl
      | some y => exact (hne x y rfl rfl).elim
  · cases h
theorem nth_zs {μ : Mem} {a b z : MV} {i : Nat} (h : nth μ (.zp a b) i = some (some z)) : ∃ x y, nth μ a i = some (some x) ∧ nth μ b i = some (some y) ∧ z = .tup [x, y] := by
  simp only [nth] at h
  split at h
  · rename_i x y e1 e2
    cases h
    exact ⟨x, y, e1, e2, rfl⟩
  · cases h
  · cases h
theorem it_stop {φ : List Addr} {G H : Hp} {μ : Mem} {J : MV} {J' : It} {i : Nat} (r : Rel g φ G μ) (sb : Sub G H) (h : ItR g φ G J J') (hn : nth μ J i = some none) : J'.stop i H := by
  cases J with
  | tup xs =>
    obtain ⟨a, vs, rfl, h2, h3⟩ := h
    simp only [nth, Option.some.injEq] at hn
    exact ⟨vs, sqT_sub sb h2, h3.none hn⟩
  | ref j =>
    obtain ⟨a, rfl, h2⟩ := h
    simp only [nth] at hn
    cases e : lstAt μ j with
    | none => rw [e] at hn; cases hn
    | some xs =>
      rw [e] at hn
      simp only [Option.map_some, Option.some.injEq] at hn
      obtain ⟨vs, h3, h4⟩ := r.lstAt e h2
      exact ⟨vs, sqL_sub sb h3, h4.none hn⟩
  | rng lo n st =>
    obtain ⟨rfl, rfl⟩ := h
    simp only [nth, Option.some.injEq] at hn
    split at hn
    · cases hn
    · show n ≤ i
      omega
  | str s =>
    cases h
    simp only [nth, Option.some.injEq, Option.map_eq_none_iff] at hn
    have := List.getElem?_eq_none_iff.mp hn
    show s.cps.size ≤ i
    simpa using this
  | zp x y =>
    obtain ⟨o1, o2, n1, n2, hor⟩ := nth_zn hn
    rcases itr_zp h with ⟨xs, ys, rfl, rfl⟩ | ⟨i1, i2, rfl, rfl⟩
    · obtain ⟨a, b, vs, ws, rfl, h2, h3, h4, h5⟩ := h
      refine ⟨vs, ws, sqT_sub sb h2, sqT_sub sb h3, ?_⟩
      simp only [nth, Option.some.injEq] at n1 n2
      subst n1 n2
      rw [← h4.len, ← h5.len]
      exact hor.imp List.getElem?_eq_none_iff.mp List.getElem?_eq_none_iff.mp
    · obtain ⟨a, b, rfl, h2, h3⟩ := h
      simp only [nth] at n1 n2
      obtain ⟨xs, e1, rfl⟩ := Option.map_eq_some_iff.mp n1
      obtain ⟨ys, e2, rfl⟩ := Option.map_eq_some_iff.mp n2
      obtain ⟨vs, g1, g2⟩ := r.lstAt e1 h2
      obtain ⟨ws, g3, g4⟩ := r.lstAt e2 h3
      refine ⟨vs, ws, sqL_sub sb g1, sqL_sub sb g3, ?_⟩
      rw [← g2.len, ← g4.len]
      exact hor.imp List.getElem?_eq_none_iff.mp List.getElem?_eq_none_iff.mp
  | _ => exact h.elim
theorem it_go {φ : List Addr} {G H : Hp} {μ : Mem} {J : MV} {J' : It} {i : Nat} {x : MV} (r : Rel g φ G μ) (sb : Sub G H) (h : ItR g φ G J J') (hn : nth μ J i = some (some x)) :
    J'.go i H ∧ ∀ v H', J'.yld i H v H' → ∃ G', Ext none φ G H φ G' H' ∧ Rel g φ G' μ ∧ RV g φ G' x v := by
  cases J with
  | tup xs =>
    obtain ⟨a, vs, rfl, h2, h3⟩ := h
    simp only [nth, Option.some.injEq] at hn
    obtain ⟨v, h4, h5⟩ := h3.get hn
    refine ⟨⟨vs, v, sqT_sub sb h2, h4⟩, fun u H' hy => ?_⟩
    obtain ⟨rfl, hy⟩ := hy
    have := hy vs (sqT_sub sb h2)
    rw [h4] at this
    cases this
    exact ⟨G, Ext.refl sb, r, h5⟩
  | ref j =>
    obtain ⟨a, rfl, h2⟩ := h
    simp only [nth] at hn
    cases e : lstAt μ j with
    | none => rw [e] at hn; cases hn
    | some xs =>
      rw [e] at hn
      simp only [Option.map_some, Option.some.injEq] at hn
      obtain ⟨vs, h3, h4⟩ := r.lstAt e h2
      obtain ⟨v, h5, h6⟩ := h4.get hn
      refine ⟨⟨vs, v, sqL_sub sb h3, h5⟩, fun u H' hy => ?_⟩
      obtain ⟨rfl, hy⟩ := hy
      have := hy vs (sqL_sub sb h3)
      rw [h5] at this
      cases this
      exact ⟨G, Ext.refl sb, r, h6⟩
  | rng lo n st =>
    obtain ⟨rfl, rfl⟩ := h
    simp only [nth, Option.some.injEq] at hn
    split at hn
    · rename_i hi
      cases hn
      refine ⟨hi, fun u H' hy => ?_⟩
      obtain ⟨rfl, rfl⟩ := hy
      refine ⟨G, Ext.refl sb, r, ?_⟩
      simp only [RV, Int.mul_one]
    · cases hn
  | str s =>
    cases h
    simp only [nth, Option.some.injEq] at hn
    obtain ⟨c, hc, rfl⟩ := Option.map_eq_some_iff.mp hn
    have hc' : s.cps[i]? = some c := by simpa using hc
    refine ⟨(Array.getElem?_eq_some_iff.mp hc').1, fun u H' hy => ?_⟩
    obtain ⟨rfl, c', e, rfl⟩ := hy
    rw [hc'] at e
    cases e
    exact ⟨G, Ext.refl sb, r, by simp only [RV]⟩
  | zp a1 b1 =>
    obtain ⟨x1, y1, n1, n2, rfl⟩ := nth_zs hn
    have fin : ∀ {u : V} {H' : Hp} {x' y' : V} {T : Addr}, u = .ref T → H T = none → H' = L2.upd H T (.tup [x', y']) → RV g φ G x1 x' → RV g φ G y1 y' → ∃ G', Ext none φ G H φ G' H' ∧ Rel g φ G' μ ∧ RV g φ G' (.tup [x1, y1]) u := fun {u H' x' y' T} e1 e2 e3 q1 q2 => by
      subst e1 e3
      have hG := sb.none e2
      have e : Ext none φ G H φ (L2.upd G T (.tup [x', y'])) (L2.upd H T (.tup [x', y'])) := by
        have := Ext.new (ex := none) (φ := φ) sb (o := .tup [x', y']) e2 []
        rwa [List.append_nil] at this
      refine ⟨_, e, r.grow (sub_new hG), ?_⟩
      simp only [RV]
      exact ⟨T, [x', y'], rfl, SqT.of upd_same, (rvs_cons q1 (rvs_cons q2 rvs_nil)).ext e⟩
    rcases itr_zp h with ⟨xs, ys, rfl, rfl⟩ | ⟨i1, i2, rfl, rfl⟩
    · obtain ⟨a, b, vs, ws, rfl, h2, h3, h4, h5⟩ := h
      simp only [nth, Option.some.injEq] at n1 n2
      obtain ⟨v1, k1, k2⟩ := h4.get n1
      obtain ⟨w1, k3, k4⟩ := h5.get n2
      refine ⟨⟨vs, ws, v1, w1, sqT_sub sb h2, sqT_sub sb h3, k1, k3⟩, fun u H' hy => ?_⟩
      obtain ⟨T, x', y', e1, e2, e3, e4, e5⟩ := hy
      have z1 := e4 vs (sqT_sub sb h2)
      have z2 := e5 ws (sqT_sub sb h3)
      rw [k1] at z1
      rw [k3] at z2
      cases z1
      cases z2
      exact fin e1 e2 e3 k2 k4
    · obtain ⟨a, b, rfl, h2, h3⟩ := h
      simp only [nth] at n1 n2
      obtain ⟨xs, e1, n1⟩ := Option.map_eq_some_iff.mp n1
      obtain ⟨ys, e2, n2⟩ := Option.map_eq_some_iff.mp n2
      obtain ⟨vs, g1, g2⟩ := r.lstAt e1 h2
      obtain ⟨ws, g3, g4⟩ := r.lstAt e2 h3
      obtain ⟨v1, k1, k2⟩ := g2.get n1
      obtain ⟨w1, k3, k4⟩ := g4.get n2
      refine ⟨⟨vs, ws, v1, w1, sqL_sub sb g1, sqL_sub sb g3, k1, k3⟩, fun u H' hy => ?_⟩
      obtain ⟨T, x', y', f1, f2, f3, f4, f5⟩ := hy
      have z1 := f4 vs (sqL_sub sb g1)
      have z2 := f5 ws (sqL_sub sb g3)
      rw [k1] at z1
      rw [k3] at z2
      cases z1
      cases z2
      exact fin f1 f2 f3 k2 k4
  | _ => exact h.elim
/-- an expression that is walked -/
def tI (g : Glob) (T : Tab) (W : WX) (md : Md) (A : E) : TI := fun σ H R => ∃ φ G μ σm, Sub G H ∧ Rel g φ G μ ∧ RSt g φ G H md σm σ ∧ Good g W σ φ G H ((evE T A σm μ).bind fun J μ => itM μ J) fun J _ φ1 G1 H1 => ∀ J', ItR g φ1 G1 J J' → R J' H1
theorem si_val {tg e : PySem.Expr} {A : E} (hK : g.K = X.K) (he : PE X e (tE g T W md A)) : PI X tg e (tI g T W md A) := by
  refine ⟨fun pins s σ H R I h => ?_⟩
  obtain ⟨φ, G, μ, σm, sb, r, en, h⟩ := h
  refine thn (he.run pins s σ H (fun x H1 => ∃ φ G μ v, Sub G H1 ∧ Rel g φ G μ ∧ RV g φ G v x ∧ Good g W σ φ G H1 (itM μ v) fun J _ φ1 G1 H1 => ∀ J', ItR g φ1 G1 J J' → R J' H1) I ⟨φ, G, μ, σm, sb, r, en, h.bind.imp fun v μ1 φ1 G1 H1 e1 r1 k w hw => ⟨φ1, G1, μ1, v, e1.sub, r1, hw, k⟩⟩) fun v s1 ⟨x, H1, I1, r1, q1⟩ => ?_
  obtain ⟨φ1, G1, μ1, x', sb1, rl1, rx, q1⟩ := q1
  unfold itM at q1
  split at q1
  · have q2 := q1.here sb1 rl1
    simp only [RV] at rx
    obtain ⟨a, vs, rfl, hq, hr⟩ := rx
    cases r1
    have hq' : SqT X.K H1 a vs := by
      rw [← hK]
      exact sqT_sub sb1 hq
    obtain ⟨its, rv, p, hz⟩ := I1.tuple hq'
    refine wpAny_pyIter_tuple (show s1.heap.IsTuple a its.toArray from p) ?_
    refine pi_one (J := Itt X.K a) (tk := s1.toks) I1 _ (turn_tuple a _) ⟨_, Heap.get?_push_size _ rfl, rfl, rfl⟩ (q2 _ ⟨a, vs, by rw [hK], hq, hr⟩)
  · split at q1
    · rename_i i xs e
      have q2 := q1.here sb1 rl1
      obtain ⟨a, vs, rfl, ha, hq, hr⟩ := rl1.ref e rx
      cases r1
      have hq' : SqL X.K H1 a vs := by
        rw [← hK]
        exact sqL_sub sb1 hq
      obtain ⟨its, rv, p, hz⟩ := I1.list hq'
      refine wpAny_pyIter_list p.isList ?_
      refine pi_one (J := Itl X.K a) (tk := s1.toks) I1 _ (turn_list a _) ⟨_, Heap.get?_push_size _ rfl, rfl, rfl⟩ (q2 _ ⟨a, by rw [hK], ha⟩)
    · exact q1.elim
  · rename_i z
    simp only [RV] at rx
    subst rx
    split at q1
    · have q2 := q1.here sb1 rl1
      obtain ⟨t, rfl⟩ := r1
      cases ha : z.cps.all (· < 128)
      · exact wpAny_pyIter_wide ha (pi_one (tk := s1.toks) I1 _ (turn_str _ z t "str_iterator" (.inr rfl)) ⟨_, Heap.get?_push_size _ rfl, rfl, rfl⟩ (q2 _ rfl))
      · exact wpAny_pyIter_ascii ha (pi_one (tk := s1.toks) I1 _ (turn_str _ z t "str_ascii_iterator" (.inl rfl)) ⟨_, Heap.get?_push_size _ rfl, rfl, rfl⟩ (q2 _ rfl))
    · exact q1.elim
  · simp only [RV] at rx
  · simp only [RV] at rx
  · simp only [RV] at rx
  · exact q1.elim
/-- zip of two lists, of two tuples -/
theorem si_zip {e e2 : PySem.Expr} {p tpos : Pos} {elts : List PySem.Expr} {kk : Nat} {A B : E} (hK : g.K = X.K) (hg : Gl X "zip") (hm : X.mg "zip" = none) (hp : plain e = true) (hp2 : plain e2 = true) (ha : PA X [e, e2] (tEs g T W md [A, B])) : PI X (.Tuple elts kk tpos) (.Call (.Name "zip" p) [e, e2] [] pos) (tI g T W md (.zip A B)) := by
  refine ⟨fun pins s σ H R I h => (RZ.pi_zipA hg hm ha (by rw [star_cons hp]) (by rw [star_cons hp2]; rfl)).run pins s σ H R I ?_⟩
  obtain ⟨φ, G, μ, σm, sb, r, en, h⟩ := h
  simp only [evE] at h
  have e0 : ((evE T A σm μ).bind fun x μ => (evE T B σm μ).bind fun y μ => zipM μ [x, y]).bind (fun J μ => itM μ J) = (evEs T [A, B] σm μ).bind fun xs μ => (zipM μ xs).bind fun J μ => itM μ J := by
    simp only [evEs]
    cases evE T A σm μ with
    | ok x μ1 =>
      simp only [Mch.R.bind]
      cases evE T B σm μ1 with
      | ok y μ2 => rfl
      | exc _ _ => rfl
      | no => rfl
    | exc _ _ => rfl
    | no => rfl
  rw [e0] at h
  refine ⟨φ, G, μ, σm, sb, r, en, h.bind.imp2 fun xs μ1 φ1 G1 H1 e0 e1 r1 k vs hvs => ?_⟩
  unfold zipM at k
  split at k
  · rename_i xs ys
    obtain ⟨v, w, rfl, hv, hw⟩ := hvs.two
    simp only [RV] at hv hw
    obtain ⟨a, us, rfl, q1, q2⟩ := hv
    obtain ⟨b, ws, rfl, q3, q4⟩ := hw
    have k := Good.here (k := _) k e1.sub r1
    exact ⟨a, b, us, ws, rfl, .inr ⟨by rw [← hK]; exact sqT_sub e1.sub q1, by rw [← hK]; exact sqT_sub e1.sub q3, by rw [← hK]; exact k _ ⟨a, b, us, ws, rfl, q1, q3, q2, q4⟩⟩⟩
  · rename_i i j
    split at k
    · rename_i hs
      rw [Bool.and_eq_true] at hs
      obtain ⟨xs, e2⟩ := Option.isSome_iff_exists.mp hs.1
      obtain ⟨ys, e3⟩ := Option.isSome_iff_exists.mp hs.2
      obtain ⟨v, w, rfl, hv, hw⟩ := hvs.two
      obtain ⟨a, us, rfl, p1, q1, q2⟩ := r1.ref e2 hv
      obtain ⟨b, ws, rfl, p2, q3, q4⟩ := r1.ref e3 hw
      have k := Good.here (k := _) k e1.sub r1
      exact ⟨a, b, us, ws, rfl, .inl ⟨by rw [← hK]; exact sqL_sub e1.sub q1, by rw [← hK]; exact sqL_sub e1.sub q3, by rw [← hK]; exact k _ ⟨a, b, rfl, p1, p2⟩⟩⟩
    · exact k.elim
  · exact k.elim
theorem si_rng1 {tg e : PySem.Expr} {p : Pos} {A : E} (hg : Gl X "range") (hm : X.mg "range" = none) (hp : plain e = true) (ha : PA X [e] (tEs g T W md [A])) : PI X tg (.Call (.Name "range" p) [e] [] pos) (tI g T W md (.rng [A])) := by
  refine ⟨fun pins s σ H R I h => (pi_range1 hg hm ha (star_cons hp)).run pins s σ H R I ?_⟩
  obtain ⟨φ, G, μ, σm, sb, r, en, h⟩ := h
  simp only [evE] at h
  refine ⟨φ, G, μ, σm, sb, r, en, h.bind.bind.imp2 fun xs μ1 φ1 G1 H1 e0 e1 r1 k vs hvs => ?_⟩
  have hl := evEs_len e0
  obtain ⟨x, rfl⟩ : ∃ x, xs = [x] := by
    cases xs with
    | nil => cases hl
    | cons x xs =>
      cases xs with
      | nil => exact ⟨x, rfl⟩
      | cons y ys => simp at hl
  obtain ⟨v, rfl, hv⟩ := hvs.one
  unfold rngM at k
  split at k
  · rename_i a heq
    cases heq
    split at k
    · rename_i hb
      simp only [RV] at hv
      subst hv
      exact ⟨a, rfl, hb.1, hb.2, (k.here e1.sub r1).here e1.sub r1 _ ⟨rfl, rfl⟩⟩
    · exact k.elim
  · rename_i heq
    cases heq
  · exact k.elim
theorem si_rng2 {tg e e2 : PySem.Expr} {p : Pos} {A B : E} (hg : Gl X "range") (hm : X.mg "range" = none) (hp : plain e = true) (hp2 : plain e2 = true) (ha : PA X [e, e2] (tEs g T W md [A, B])) : PI X tg (.Call (.Name "range" p) [e, e2] [] pos) (tI g T W md (.rng [A, B])) := by
  refine ⟨fun pins s σ H R I h => (pi_range2 hg hm ha (by rw [star_cons hp, star_cons hp2]; rfl) (by rw [star_cons hp2]; rfl)).run pins s σ H R I ?_⟩
  obtain ⟨φ, G, μ, σm, sb, r, en, h⟩ := h
  simp only [evE] at h
  refine ⟨φ, G, μ, σm, sb, r, en, h.bind.bind.imp2 fun xs μ1 φ1 G1 H1 e0 e1 r1 k vs hvs => ?_⟩
  have hl := evEs_len e0
  obtain ⟨x, y, rfl⟩ : ∃ x y, xs = [x, y] := by
    cases xs with
    | nil => cases hl
    | cons x xs =>
      cases xs with
      | nil => cases hl
      | cons y ys =>
        cases ys with
        | nil => exact ⟨x, y, rfl⟩
        | cons z zs => simp at hl
  obtain ⟨v, w, rfl, hv, hw⟩ := hvs.two
  unfold rngM at k
  split at k
  · rename_i heq
    cases heq
  · rename_i a b heq
    cases heq
    split at k
    · rename_i hb
      simp only [RV] at hv hw
      subst hv hw
      exact ⟨a, b, rfl, hb, (k.here e1.sub r1).here e1.sub r1 _ ⟨rfl, rfl⟩⟩
    · exact k.elim
  · exact k.elim
/-! ### comprehensions -/
abbrev W0 : WX := fun _ _ _ _ => False
theorem compL_noX {J : MV} {body : List MV → MV → Mem → R (List MV)} (hb : ∀ acc x μ x' μ', body acc x μ ≠ .exc x' μ') : ∀ (n i : Nat) (acc : List MV) (μ : Mem) x' μ', compL J body n i acc μ ≠ .exc x' μ'
  | 0, _, _, _, _, _ => by simp [compL]
  | n + 1, i, acc, μ, x', μ' => by
    simp only [compL]
    split
    · rename_i x e
      cases e1 : body acc x μ with
      | ok a μ1 => exact compL_noX hb n (i + 1) a μ1 x' μ'
      | exc y μ1 => exact absurd e1 (hb _ _ _ _ _)
      | no => simp [R.bind]
    · simp
    · simp
theorem calm_ok {α : Type} {r : R α} {a : α} {μ : Mem} (h : R.calm r = .ok a μ) : r = .ok a μ := by
  cases r with
  | ok b ν => exact h
  | exc x ν => cases h
  | no => cases h
theorem bind_ok {α β : Type} {r : R α} {f : α → Mem → R β} {b : β} {μ : Mem} (h : r.bind f = .ok b μ) : ∃ a μ1, r = .ok a μ1 ∧ f a μ1 = .ok b μ := by
  cases r with
  | ok a ν => exact ⟨a, ν, rfl, h⟩
  | exc x ν => cases h
  | no => cases h
theorem opt_ok {α : Type} {o : Option α} {a : α} {μ ν : Mem} (h : R.opt o μ = .ok a ν) : o = some a ∧ ν = μ := by
  cases o with
  | none => cases h
  | some b =>
    simp only [R.opt, R.ok.injEq] at h
    exact ⟨by rw [h.1], h.2.symm⟩
theorem good_ok {α : Type} {W : WX} {σ : L2.St} {φ : List Addr} {G H : Hp} {r : R α} {a : α} {μ : Mem} {k : KM α} (h : r = .ok a μ) (q : ∀ φ1 G1 H1, Ext none φ G H φ1 G1 H1 → Rel g φ1 G1 μ → k a μ φ1 G1 H1) : Good g W σ φ G H r k := by
  rw [h]
  exact q
/-- what persists -/
structure Per (φ : List Addr) (G : Hp) (φ1 : List Addr) (G1 : Hp) : Prop where
  pre : φ <+: φ1
  keep : ∀ a o, G a = some o → Fix o → G1 a = some o
theorem Ext.per {ex : Option Addr} {φ φ1 : List Addr} {G G1 H H1 : Hp} (e : Ext ex φ G H φ1 G1 H1) : Per φ G φ1 G1 := ⟨e.pre, e.keep⟩
theorem Per.trans {φ φ1 φ2 : List Addr} {G G1 G2 : Hp} (a : Per φ G φ1 G1) (b : Per φ1 G1 φ2 G2) : Per φ G φ2 G2 := ⟨a.pre.trans b.pre, fun c o h i => b.keep c o (a.keep c o h i) i⟩
theorem Per.refl {φ : List Addr} {G : Hp} : Per φ G φ G := ⟨List.prefix_refl _, fun _ _ h _ => h⟩
theorem REnv.per {φ φ1 : List Addr} {G G1 : Hp} {σm : Env} {σ : L2.St} (h : REnv g φ G md σm σ) (e : Per φ G φ1 G1) : REnv g φ1 G1 md σm σ :=
  ⟨h.1, fun i v e1 e2 => let ⟨w, q, r⟩ := h.2 i v e1 e2; ⟨w, q, RV.mono e.pre e.keep _ _ r⟩⟩
/-- the new list D grows beside what the machine knows -/
def WL (g : Glob) (D : Addr) (φ0 : List Addr) (G0 : Hp) (φ1 : List Addr) (G1 H1 : Hp) (J : MV) (J' : It) (body : List MV → MV → Mem → R (List MV)) (accF : List MV) (μF : Mem) : Nat → Nat → Hp → Prop := fun i m H => ∃ φ2 G2 μ2 acc accV,
  Per φ0 G0 φ2 G2 ∧ Ext none φ1 G1 H1 φ2 G2 H ∧ Rel g φ2 G2 μ2 ∧ ItR g φ2 G2 J J' ∧ H D = some (.lst accV) ∧ G2 D = none ∧ RVs g φ2 G2 acc accV ∧ compL J body m i acc μ2 = .ok accF μF
/-- the same through a run's end -/
theorem side {φ1 φ2 φ3 : List Addr} {G1 G2 G3 H1 H2 H3 : Hp} {D : Addr} {accV : List V} (e12 : Ext none φ1 G1 H1 φ2 G2 H2) (e23 : Ext none φ2 G2 H2 φ3 G3 H3) (hD : H2 D = some (.lst accV)) (nD : G2 D = none) :
    Ext none φ1 G1 H1 φ3 G3 H3 ∧ H3 D = some (.lst accV) ∧ G3 D = none :=
  ⟨e12.trans e23, (e23.same hD nD).1, (e23.same hD nD).2⟩
/-- D with one item more -/
theorem side_put {φ1 φ2 : List Addr} {G1 G2 H1 H2 : Hp} {D : Addr} {ws : List V} (e : Ext none φ1 G1 H1 φ2 G2 H2) (h1 : H1 D = none) (nD : G2 D = none) :
    Ext none φ1 G1 H1 φ2 G2 (upd H2 D (.lst ws)) where
  pre := e.pre
  keep := e.keep
  sub := fun a o q => by
    rw [upd_ne (fun z => by
      subst z
      rw [nD] at q
      cases q)]
    exact e.sub a o q
  frame := fun a o q n => by
    rw [upd_ne (fun z => by
      subst z
      rw [h1] at q
      cases q)]
    exact e.frame a o q n
/-- at the end D is known -/
theorem side_end {φ1 φ2 : List Addr} {G1 G2 H1 H2 : Hp} {μ2 : Mem} {D : Addr} {acc : List MV} {accV : List V} (e : Ext none φ1 G1 H1 φ2 G2 H2) (r : Rel g φ2 G2 μ2) (h1 : H1 D = none) (hD : H2 D = some (.lst accV)) (nD : G2 D = none) (rv : RVs g φ2 G2 acc accV) :
    Ext none φ1 G1 H1 (φ2 ++ [D]) (upd G2 D (.lst accV)) H2 ∧ Rel g (φ2 ++ [D]) (upd G2 D (.lst accV)) (μ2 ++ [.lst acc]) := by
  refine ⟨⟨e.pre.trans (List.prefix_append _ _), fun a o q i => sub_new nD a o (e.keep a o q i), fun a o q => ?_, fun a o q n => ?_⟩, r.newL nD rv⟩
  · by_cases z : a = D
    · subst z
      rw [upd_same] at q
      rw [hD, q]
    · rw [upd_ne z] at q
      exact e.sub a o q
  · obtain ⟨n1, o1, q1, q2⟩ := e.frame a o q n
    have z : a ≠ D := ne_of_none q h1
    rw [upd_ne z]
    exact ⟨n1, o1, q1, q2⟩
/-- the body of a comprehension of one clause -/
noncomputable def body1 (T : Tab) (A TG CD : E) (own : List Nat) (σm : Env) : List MV → MV → Mem → R (List MV) := fun acc x μ => (R.opt (bindT TG x (wipeM σm own)) μ).bind fun σ1 μ => R.calm ((evE T CD σ1 μ).bind fun k μ => (truR k μ).bind fun k μ =>
  if k then (evE T A σ1 μ).bind fun v μ => putL acc v μ else .ok acc μ)
theorem body1_noX {A TG CD : E} {own : List Nat} {σm : Env} (acc : List MV) (x : MV) (μ : Mem) (x' : MX) (μ' : Mem) : body1 T A TG CD own σm acc x μ ≠ .exc x' μ' := by
  unfold body1
  cases bindT TG x (wipeM σm own) with
  | none => simp [R.opt, R.bind]
  | some σ1 =>
    simp only [R.opt, R.bind]
    unfold R.calm
    split
    · simp
    · rename_i hne
      exact hne _ _
/-- what is wished of the item behind the tests -/
theorem item_ok {W' : WX} {A : E} {σ : L2.St} {σ1 : Env} {D : Addr} {φ1 φ2 : List Addr} {G1 G2 H1 H2 : Hp} {μ2 μ4 : Mem} {acc acc' : List MV} {accV : List V} {Nx : Hp → Prop} {v : MV} {μ3 : Mem}
    (h1 : H1 D = none) (e12 : Ext none φ1 G1 H1 φ2 G2 H2) (r2 : Rel g φ2 G2 μ2) (en : RSt g φ2 G2 H2 md σ1 σ) (hD : H2 D = some (.lst accV)) (nD : G2 D = none) (rv : RVs g φ2 G2 acc accV) (he : evE T A σ1 μ2 = .ok v μ3) (hp : putL acc v μ3 = .ok acc' μ4)
    (k : ∀ φ3 G3 H3 accV', Ext none φ1 G1 H1 φ3 G3 H3 → Ext none φ2 G2 H2 φ3 G3 (upd H3 D (.lst accV)) → Rel g φ3 G3 μ4 → H3 D = some (.lst accV') → G3 D = none → RVs g φ3 G3 acc' accV' → Nx H3) :
    tE g T W' md A σ H2 fun y H4 => ∃ acc, H4 D = some (.lst acc) ∧ acc.length < sizeLine ∧ Nx (upd H4 D (.lst (acc ++ [y]))) := by
  unfold putL at hp
  split at hp
  · rename_i hz
    simp only [R.ok.injEq] at hp
    obtain ⟨rfl, rfl⟩ := hp
    refine ⟨φ2, G2, μ2, σ1, e12.sub, r2, en, good_ok he fun φ3 G3 H3 e3 r3 w hw => ?_⟩
    obtain ⟨e13, hD3, nD3⟩ := side e12 e3 hD nD
    refine ⟨accV, hD3, by rw [← rv.len]; exact hz, k φ3 G3 _ (accV ++ [w]) (side_put e13 h1 nD3) ?_ r3 upd_same nD3 ((rv.ext e3).append (rvs_cons hw rvs_nil))⟩
    rw [upd_upd]
    have : upd H3 D (.lst accV) = H3 := by
      funext b
      by_cases hb : b = D
      · subst hb
        rw [upd_same, hD3]
      · rw [upd_ne hb]
    rw [this]
    exact e3
  · cases hp
theorem comp_read {IT A TG CD : E} {own : List Nat} {σ : L2.St} {H : Hp} {Q : VK} (hmd : ∀ j a c d, md ≠ .exc j a c d) (hsl : ∀ i ∈ tgSlots TG, i ∈ own) (h : tE g T W md (.comp A TG IT CD own) σ H Q) :
    tLc (tI g T W md IT) (gB g md.blk TG) (tT g T W0 md.blk CD) (tE g T W0 md.blk A) own σ H Q := by
  obtain ⟨φ, G, μ, σm, sb, r, en, h⟩ := h
  simp only [evE] at h
  have h : Good g W σ φ G H ((evE T IT σm μ).bind fun J μ => (itM μ J).bind fun J μ => (compL J (body1 T A TG CD own σm) T.n 0 [] μ).bind fun xs μ => newL xs μ) (kE g Q) := h
  have h : Good g W σ φ G H (((evE T IT σm μ).bind fun J μ => itM μ J).bind fun J μ => (compL J (body1 T A TG CD own σm) T.n 0 [] μ).bind fun xs μ => newL xs μ) (kE g Q) := by
    cases e0 : evE T IT σm μ <;> rw [e0] at h <;> exact h
  refine ⟨φ, G, μ, σm, sb, r, en, h.bind.imp fun J μ1 φ1 G1 H1 e1 r1 k J' hJ D hD => ?_⟩
  cases e0 : compL J (body1 T A TG CD own σm) T.n 0 [] μ1 with
  | exc x' μ' => exact absurd e0 (compL_noX body1_noX _ _ _ _ _ _)
  | no => rw [e0] at k; exact k.elim
  | ok accF μF =>
    rw [e0] at k
    have k : Good g W σ φ1 G1 H1 (newL accF μF) (kE g Q) := k
    have nD1 : G1 D = none := e1.sub.none hD
    have e01 : Ext none φ1 G1 H1 φ1 G1 (upd H1 D (.lst [])) := side_put (Ext.refl e1.sub) hD nD1
    refine ⟨WL g D φ1 G1 φ1 G1 H1 J J' (body1 T A TG CD own σm) accF μF, ⟨T.n, φ1, G1, μ1, [], [], Per.refl, e01, r1, hJ, upd_same, nD1, rvs_nil, e0⟩, fun i m H2 hw => ?_⟩
    obtain ⟨φ2, G2, μ2, acc, accV, p2, e2, r2, hJ2, hD2, nD2, rv2, hc⟩ := hw
    cases m with
    | zero => simp only [compL] at hc; cases hc
    | succ m =>
      simp only [compL] at hc
      split at hc
      · rename_i x hn
        obtain ⟨hgo, hyld⟩ := it_go r2 e2.sub hJ2 hn
        refine .inr ⟨hgo, fun H' => WL g D φ1 G1 φ1 G1 H1 J J' (body1 T A TG CD own σm) accF μF (i + 1) m H', fun H' hw' => ⟨m, Nat.lt_succ_self m, hw'⟩, fun v H3 hy => ?_⟩
        obtain ⟨G3, e3, r3, rx⟩ := hyld v H3 hy
        obtain ⟨e13, hD3, nD3⟩ := side e2 e3 hD2 nD2
        obtain ⟨acc', μ4, hb, hrest⟩ := bind_ok hc
        unfold body1 at hb
        obtain ⟨σ1, μ2', hb1, hb2⟩ := bind_ok hb
        obtain ⟨hb0, rfl⟩ := opt_ok hb1
        have hb2 := calm_ok hb2
        obtain ⟨kv, μ5, hc1, hb3⟩ := bind_ok hb2
        obtain ⟨kb, μ5', ht1, hb4⟩ := bind_ok hb3
        have en3 := ((((en.env.ext e1).ext e13).wipe own).blk hmd)
        refine ⟨φ2, G3, x, wipeM σm own, σ1, e3.sub, rx, en3, hb0, fun σ' en' st => ⟨(st.wipe hsl).trans (wipe_wipe own σ), φ2, G3, _, σ1, e3.sub, r3, RSt.of en', ?_⟩⟩
        refine good_ok (a := kb) (μ := μ5') (by rw [hc1]; exact ht1) fun φ4 G4 H4 e4 r4 => ?_
        obtain ⟨e14, hD4, nD4⟩ := side e13 e4 hD3 nD3
        cases kb with
        | true =>
          rw [if_pos rfl] at hb4 ⊢
          obtain ⟨vv, μ6, hv1, hp1⟩ := bind_ok hb4
          exact item_ok hD e14 r4 ((RSt.of en').ext e4) hD4 nD4 ((rv2.ext e3).ext e4) hv1 hp1 fun φ5 G5 H5 accV' e15 e45 r5 hD5 nD5 rv5 => ⟨φ5, G5, μ4, acc', accV', e15.per, e15, r5, ((hJ2.ext e3).ext e4).ext e45, hD5, nD5, rv5, hrest⟩
        | false =>
          rw [if_neg Bool.false_ne_true] at hb4 ⊢
          simp only [R.ok.injEq] at hb4
          obtain ⟨rfl, rfl⟩ := hb4
          exact ⟨φ4, G4, _, acc, accV, e14.per, e14, r4, (hJ2.ext e3).ext e4, hD4, nD4, (rv2.ext e3).ext e4, hrest⟩
      · rename_i hn
        simp only [R.ok.injEq] at hc
        obtain ⟨rfl, rfl⟩ := hc
        refine .inl ⟨it_stop r2 e2.sub hJ2 hn, ?_⟩
        unfold newL at k
        split at k
        · obtain ⟨e3, r3⟩ := side_end e2 r2 hD hD2 nD2 rv2
          refine k _ _ _ e3 r3 _ ?_
          simp only [RV]
          exact ⟨D, rfl, by rw [← r2.len, List.getElem?_append_right (Nat.le_refl _), Nat.sub_self]; rfl⟩
        · exact k.elim
      · cases hc
/-- the bodies of a comprehension of two clauses -/
noncomputable def body2i (T : Tab) (A TG1 CD1 : E) (own1 : List Nat) (σ1 : Env) : List MV → MV → Mem → R (List MV) := fun acc x μ => (R.opt (bindT TG1 x (wipeM σ1 own1)) μ).bind fun σ2 μ => (evE T CD1 σ2 μ).bind fun k μ => (truR k μ).bind fun k μ =>
  if k then (evE T A σ2 μ).bind fun v μ => putL acc v μ else .ok acc μ
noncomputable def body2 (T : Tab) (A TG CD TG1 IT1 CD1 : E) (own own1 : List Nat) (σm : Env) : List MV → MV → Mem → R (List MV) := fun acc x μ => (R.opt (bindT TG x (wipeM σm own)) μ).bind fun σ1 μ => R.calm ((evE T CD σ1 μ).bind fun k μ => (truR k μ).bind fun k μ =>
  if k then (evE T IT1 σ1 μ).bind fun J1 μ => (itM μ J1).bind fun J1 μ => compL J1 (body2i T A TG1 CD1 own1 σ1) T.n 0 acc μ else .ok acc μ)
theorem body2_noX {A TG CD TG1 IT1 CD1 : E} {own own1 : List Nat} {σm : Env} (acc : List MV) (x : MV) (μ : Mem) (x' : MX) (μ' : Mem) : body2 T A TG CD TG1 IT1 CD1 own own1 σm acc x μ ≠ .exc x' μ' := by
  unfold body2
  cases bindT TG x (wipeM σm own) with
  | none => simp [R.opt, R.bind]
  | some σ1 =>
    simp only [R.opt, R.bind]
    unfold R.calm
    split
    · simp
    · rename_i hne
      exact hne _ _
theorem comp2_read {IT A TG CD TG1 IT1 CD1 : E} {own own1 : List Nat} {σ : L2.St} {H : Hp} {Q : VK} (hmd : ∀ j a c d, md ≠ .exc j a c d) (hsl : ∀ i ∈ tgSlots TG, i ∈ own) (hsl1 : ∀ i ∈ tgSlots TG1, i ∈ own1) (h : tE g T W md (.comp2 A TG IT CD TG1 IT1 CD1 own own1) σ H Q) :
    tLc2 (tI g T W md IT) (gB g md.blk TG) (tT g T W0 md.blk CD) (tI g T W0 md.blk IT1) (gB g md.blk TG1) (tT g T W0 md.blk CD1) (tE g T W0 md.blk A) own own1 σ H Q := by
  obtain ⟨φ, G, μ, σm, sb, r, en, h⟩ := h
  simp only [evE] at h
  have h : Good g W σ φ G H ((evE T IT σm μ).bind fun J μ => (itM μ J).bind fun J μ => (compL J (body2 T A TG CD TG1 IT1 CD1 own own1 σm) T.n 0 [] μ).bind fun xs μ => newL xs μ) (kE g Q) := h
  have h : Good g W σ φ G H (((evE T IT σm μ).bind fun J μ => itM μ J).bind fun J μ => (compL J (body2 T A TG CD TG1 IT1 CD1 own own1 σm) T.n 0 [] μ).bind fun xs μ => newL xs μ) (kE g Q) := by
    cases e0 : evE T IT σm μ <;> rw [e0] at h <;> exact h
  refine ⟨φ, G, μ, σm, sb, r, en, h.bind.imp fun J μ1 φ1 G1 H1 e1 r1 k J' hJ D hD => ?_⟩
  generalize hbd : body2 T A TG CD TG1 IT1 CD1 own own1 σm = bd at k
  cases e0 : compL J bd T.n 0 [] μ1 with
  | exc x' μ' =>
    refine absurd e0 (compL_noX ?_ _ _ _ _ _ _)
    rw [← hbd]
    exact body2_noX
  | no => rw [e0] at k; exact k.elim
  | ok accF μF =>
    rw [e0] at k
    have k : Good g W σ φ1 G1 H1 (newL accF μF) (kE g Q) := k
    have nD1 : G1 D = none := e1.sub.none hD
    have e01 : Ext none φ1 G1 H1 φ1 G1 (upd H1 D (.lst [])) := side_put (Ext.refl e1.sub) hD nD1
    refine ⟨WL g D φ1 G1 φ1 G1 H1 J J' bd accF μF, ⟨T.n, φ1, G1, μ1, [], [], Per.refl, e01, r1, hJ, upd_same, nD1, rvs_nil, e0⟩, fun i m H2 hw => ?_⟩
    obtain ⟨φ2, G2, μ2, acc, accV, p2, e2, r2, hJ2, hD2, nD2, rv2, hc⟩ := hw
    cases m with
    | zero => simp only [compL] at hc; cases hc
    | succ m =>
      simp only [compL] at hc
      split at hc
      · rename_i x hn
        obtain ⟨hgo, hyld⟩ := it_go r2 e2.sub hJ2 hn
        refine .inr ⟨hgo, fun H' => WL g D φ1 G1 φ1 G1 H1 J J' bd accF μF (i + 1) m H', fun H' hw' => ⟨m, Nat.lt_succ_self m, hw'⟩, fun v H3 hy => ?_⟩
        obtain ⟨G3, e3, r3, rx⟩ := hyld v H3 hy
        obtain ⟨e13, hD3, nD3⟩ := side e2 e3 hD2 nD2
        obtain ⟨acc', μ4, hb, hrest⟩ := bind_ok hc
        have hb : body2 T A TG CD TG1 IT1 CD1 own own1 σm acc x μ2 = .ok acc' μ4 := by
          rw [hbd]
          exact hb
        unfold body2 at hb
        obtain ⟨σ1, μ2', hb1, hb2⟩ := bind_ok hb
        obtain ⟨hb0, rfl⟩ := opt_ok hb1
        have hb2 := calm_ok hb2
        obtain ⟨kv, μ5, hc1, hb3⟩ := bind_ok hb2
        obtain ⟨kb, μ5', ht1, hb4⟩ := bind_ok hb3
        have en3 := ((((en.env.ext e1).ext e13).wipe own).blk hmd)
        refine ⟨φ2, G3, x, wipeM σm own, σ1, e3.sub, rx, en3, hb0, fun σ' en' st => ⟨(st.wipe hsl).trans (wipe_wipe own σ), φ2, G3, _, σ1, e3.sub, r3, RSt.of en', ?_⟩⟩
        refine good_ok (a := kb) (μ := μ5') (by rw [hc1]; exact ht1) fun φ4 G4 H4 e4 r4 => ?_
        obtain ⟨e14, hD4, nD4⟩ := side e13 e4 hD3 nD3
        cases kb with
        | true =>
          rw [if_pos rfl] at hb4 ⊢
          obtain ⟨J1, μ6, hi1, hb5⟩ := bind_ok hb4
          obtain ⟨J2, μ7, hi2, hb6⟩ := bind_ok hb5
          refine ⟨φ4, G4, _, σ1, e4.sub, r4, (RSt.of en').ext e4, good_ok (a := J2) (μ := μ7) (by rw [hi1]; exact hi2) fun φ5 G5 H5 e5 r5 J2' hJ2' => ?_⟩
          obtain ⟨e15, hD5, nD5⟩ := side e14 e5 hD4 nD4
          refine ⟨WL g D φ5 G5 φ1 G1 H1 J2 J2' (body2i T A TG1 CD1 own1 σ1) acc' μ4, ⟨T.n, φ5, G5, μ7, acc, accV, Per.refl, e15, r5, hJ2', hD5, nD5, ((rv2.ext e3).ext e4).ext e5, hb6⟩, fun j n H6 hw6 => ?_⟩
          obtain ⟨φ6, G6, μ8, acc6, accV6, p6, e6, r6, hJ6, hD6, nD6, rv6, hc6⟩ := hw6
          cases n with
          | zero => simp only [compL] at hc6; cases hc6
          | succ n =>
            simp only [compL] at hc6
            split at hc6
            · rename_i y hn6
              obtain ⟨hgo6, hyld6⟩ := it_go r6 e6.sub hJ6 hn6
              refine .inr ⟨hgo6, fun H' => WL g D φ5 G5 φ1 G1 H1 J2 J2' (body2i T A TG1 CD1 own1 σ1) acc' μ4 (j + 1) n H', fun H' hw' => ⟨n, Nat.lt_succ_self n, hw'⟩, fun v H7 hy7 => ?_⟩
              obtain ⟨G7, e7, r7, ry⟩ := hyld6 v H7 hy7
              obtain ⟨e17, hD7, nD7⟩ := side e6 e7 hD6 nD6
              have p7 := p6.trans e7.per
              obtain ⟨acc8, μ9, hb7, hrest7⟩ := bind_ok hc6
              unfold body2i at hb7
              obtain ⟨σ2, μ8', hb8, hb9⟩ := bind_ok hb7
              obtain ⟨hb80, rfl⟩ := opt_ok hb8
              obtain ⟨kv7, μ10, hc7, hb10⟩ := bind_ok hb9
              obtain ⟨kb7, μ10', ht7, hb11⟩ := bind_ok hb10
              have en7 := ((((en'.ext e4).ext e5).per p7).wipe own1)
              refine ⟨φ6, G7, y, wipeM σ1 own1, σ2, e7.sub, ry, en7, hb80, fun σ'' en'' st'' => ⟨(st''.wipe hsl1).trans (wipe_wipe own1 σ'), φ6, G7, _, σ2, e7.sub, r7, RSt.of en'', ?_⟩⟩
              refine good_ok (a := kb7) (μ := μ10') (by rw [hc7]; exact ht7) fun φ8 G8 H8 e8 r8 => ?_
              obtain ⟨e18, hD8, nD8⟩ := side e17 e8 hD7 nD7
              have p8 := p7.trans e8.per
              cases kb7 with
              | true =>
                rw [if_pos rfl] at hb11 ⊢
                obtain ⟨vv, μ11, hv1, hp1⟩ := bind_ok hb11
                exact item_ok hD e18 r8 ((RSt.of en'').ext e8) hD8 nD8 ((rv6.ext e7).ext e8) hv1 hp1 fun φ9 G9 H9 accV' e19 e89 r9 hD9 nD9 rv9 => ⟨φ9, G9, μ9, acc8, accV', p8.trans e89.per, e19, r9, ((hJ6.ext e7).ext e8).ext e89, hD9, nD9, rv9, hrest7⟩
              | false =>
                rw [if_neg Bool.false_ne_true] at hb11 ⊢
                simp only [R.ok.injEq] at hb11
                obtain ⟨rfl, rfl⟩ := hb11
                exact ⟨φ8, G8, _, acc6, accV6, p8, e18, r8, (hJ6.ext e7).ext e8, hD8, nD8, (rv6.ext e7).ext e8, hrest7⟩
            · rename_i hn6
              simp only [R.ok.injEq] at hc6
              obtain ⟨rfl, rfl⟩ := hc6
              exact .inl ⟨it_stop r6 e6.sub hJ6 hn6, φ6, G6, _, acc6, accV6, e6.per, e6, r6, hJ.ext e6, hD6, nD6, rv6, hrest⟩
            · cases hc6
        | false =>
          rw [if_neg Bool.false_ne_true] at hb4 ⊢
          simp only [R.ok.injEq] at hb4
          obtain ⟨rfl, rfl⟩ := hb4
          exact ⟨φ4, G4, _, acc, accV, e14.per, e14, r4, (hJ2.ext e3).ext e4, hD4, nD4, (rv2.ext e3).ext e4, hrest⟩
      · rename_i hn
        simp only [R.ok.injEq] at hc
        obtain ⟨rfl, rfl⟩ := hc
        refine .inl ⟨it_stop r2 e2.sub hJ2 hn, ?_⟩
        unfold newL at k
        split at k
        · obtain ⟨e3, r3⟩ := side_end e2 r2 hD hD2 nD2 rv2
          refine k _ _ _ e3 r3 _ ?_
          simp only [RV]
          exact ⟨D, rfl, by rw [← r2.len, List.getElem?_append_right (Nat.le_refl _), Nat.sub_self]; rfl⟩
        · exact k.elim
      · cases hc
end
end Mch

/-! ## Statements -/
namespace Mch
open PySem PySem.Spec PyProof.Rows L2
section
variable {g : Glob} {φ φ1 : List Addr} {G G1 H H1 : Hp} {md : Md} {σm : Env} {σ : L2.St}
/-- what a statement's end gives -/
def GoodS (g : Glob) (W : WX) (md : Md) (φ : List Addr) (G H : Hp) (D : Ends) : RS → Prop
  | .ok (.next σm) μ => ∀ φ1 G1 H1 σ', Ext md.adr φ G H φ1 G1 H1 → Rel g φ1 G1 μ → RSt g φ1 G1 H1 md σm σ' → D.nx σ' H1
  | .ok (.brk σm) μ => ∀ φ1 G1 H1 σ', Ext md.adr φ G H φ1 G1 H1 → Rel g φ1 G1 μ → RSt g φ1 G1 H1 md σm σ' → D.bk σ' H1
  | .ok (.cnt σm) μ => ∀ φ1 G1 H1 σ', Ext md.adr φ G H φ1 G1 H1 → Rel g φ1 G1 μ → RSt g φ1 G1 H1 md σm σ' → D.ct σ' H1
  | .ok (.ret v) μ => ∀ φ1 G1 H1 w, Ext md.adr φ G H φ1 G1 H1 → Rel g φ1 G1 μ → RV g φ1 G1 v w → D.rt w H1
  | .exc x σm μ => ∀ φ1 G1 H1 σ', Ext md.adr φ G H φ1 G1 H1 → Rel g φ1 G1 μ → RSt g φ1 G1 H1 md σm σ' → ∀ cls dd, RX g φ1 G1 H1 x cls dd → W cls dd σ' H1
  | .no => False
variable {W : WX} {D D' : Ends}
theorem GoodS.ext {r : RS} (h : GoodS g W md φ G H D r) (e : Ext md.adr φ G H φ1 G1 H1) : GoodS g W md φ1 G1 H1 D r := by
  cases r with
  | ok f μ => cases f with
    | next σm => exact fun φ2 G2 H2 σ' e2 r2 s2 => h φ2 G2 H2 σ' (e.trans e2) r2 s2
    | brk σm => exact fun φ2 G2 H2 σ' e2 r2 s2 => h φ2 G2 H2 σ' (e.trans e2) r2 s2
    | cnt σm => exact fun φ2 G2 H2 σ' e2 r2 s2 => h φ2 G2 H2 σ' (e.trans e2) r2 s2
    | ret v => exact fun φ2 G2 H2 w e2 r2 s2 => h φ2 G2 H2 w (e.trans e2) r2 s2
  | exc x σm μ => exact fun φ2 G2 H2 σ' e2 r2 s2 => h φ2 G2 H2 σ' (e.trans e2) r2 s2
  | no => exact h
/-- a run, read as a statement -/
def tR (g : Glob) (W : WX) (md : Md) (run : Env → Mem → RS) : TS := fun D σ H => ∃ φ G μ σm, Sub G H ∧ Rel g φ G μ ∧ RSt g φ G H md σm σ ∧ GoodS g W md φ G H D (run σm μ)
theorem GoodS.go {r : RS} {f : Env → Mem → RS} (h : GoodS g W md φ G H D (r.go f)) : GoodS g W md φ G H { D with nx := tR g W md f D } r := by
  cases r with
  | ok fl μ => cases fl with
    | next σm => exact fun φ2 G2 H2 σ' e2 r2 s2 => ⟨φ2, G2, μ, σm, e2.sub, r2, s2, GoodS.ext (r := f σm μ) h e2⟩
    | brk σm => exact h
    | cnt σm => exact h
    | ret v => exact h
  | exc x σm μ => exact h
  | no => exact h
/-- an expression, then the rest of a statement -/
theorem GoodS.stm {α : Type} {r : R α} {f : α → Mem → RS} (st : RSt g φ G H md σm σ) (h : GoodS g W md φ G H D (r.stm σm f)) : Good g W σ φ G H r fun a μ φ1 G1 H1 => GoodS g W md φ1 G1 H1 D (f a μ) := by
  cases r with
  | ok a μ => exact fun φ1 G1 H1 e r1 => GoodS.ext (r := f a μ) h e.weak
  | exc x μ => exact fun φ1 G1 H1 e r1 => h φ1 G1 H1 σ e.weak r1 (st.ext e)
  | no => exact h
theorem GoodS.here {μ : Mem} (h : GoodS g W md φ G H D (.ok (.next σm) μ)) (s : Sub G H) (r : Rel g φ G μ) (st : RSt g φ G H md σm σ) : D.nx σ H := h φ G H σ (Ext.refl s) r st
end
section
variable {X : Cx} {g : Glob} {T : Tab} {W : WX} {md : Md} {pos : Pos} {e c : PySem.Expr} {A C : E} {a b : List Stmt} {Ab Bb : List S}
theorem ss_nil : PSs X [] (tR g W md (evB T [])) := by
  refine ⟨fun pins s σ H D I h => pss_nil.run pins s σ H D I ?_⟩
  obtain ⟨φ, G, μ, σm, sb, r, st, h⟩ := h
  simp only [evB] at h
  exact h.here sb r st
theorem ss_cons {st : Stmt} {rest : List Stmt} {s : S} {bs : List S} (h1 : PS X st (tR g W md (evS T s))) (h2 : PSs X rest (tR g W md (evB T bs))) : PSs X (st :: rest) (tR g W md (evB T (s :: bs))) := by
  refine ⟨fun pins s σ H D I h => (pss_cons h1 h2).run pins s σ H D I ?_⟩
  obtain ⟨φ, G, μ, σm, sb, r, st, h⟩ := h
  simp only [evB] at h
  exact ⟨φ, G, μ, σm, sb, r, st, h.go⟩
theorem sp_pass : PS X (.Pass pos) (tR g W md (evS T .pass)) := by
  refine ⟨fun pins s σ H D I h => ps_pass.run pins s σ H D I ?_⟩
  obtain ⟨φ, G, μ, σm, sb, r, st, h⟩ := h
  simp only [evS] at h
  exact h.here sb r st
theorem sp_brk : PS X (.Break pos) (tR g W md (evS T .brk)) := by
  refine ⟨fun pins s σ H D I h => ps_break.run pins s σ H D I ?_⟩
  obtain ⟨φ, G, μ, σm, sb, r, st, h⟩ := h
  simp only [evS] at h
  exact h φ G H σ (Ext.refl sb) r st
theorem sp_cnt : PS X (.Continue pos) (tR g W md (evS T .cnt)) := by
  refine ⟨fun pins s σ H D I h => ps_continue.run pins s σ H D I ?_⟩
  obtain ⟨φ, G, μ, σm, sb, r, st, h⟩ := h
  simp only [evS] at h
  exact h φ G H σ (Ext.refl sb) r st
theorem sp_retN : PS X (.Return none pos) (tR g W md (evS T .retN)) := by
  refine ⟨fun pins s σ H D I h => ps_retN.run pins s σ H D I ?_⟩
  obtain ⟨φ, G, μ, σm, sb, r, st, h⟩ := h
  simp only [evS] at h
  exact h φ G H _ (Ext.refl sb) r (by simp only [RV])
theorem sp_ret (he : PE X e (tE g T W md A)) : PS X (.Return (some e) pos) (tR g W md (evS T (.ret A))) := by
  refine ⟨fun pins s σ H D I h => (ps_ret he).run pins s σ H D I ?_⟩
  obtain ⟨φ, G, μ, σm, sb, r, st, h⟩ := h
  simp only [evS] at h
  exact ⟨φ, G, μ, σm, sb, r, st, (h.stm st).imp fun v μ1 φ1 G1 H1 e1 r1 k w hw => k φ1 G1 H1 w (Ext.refl e1.sub) r1 hw⟩
def notComp : PySem.Expr → Bool
  | .ListComp _ _ _ _ => false
  | .SetComp _ _ _ _ => false
  | .DictComp _ _ _ _ _ => false
  | _ => true
theorem swaps_no {t : Option PySem.Expr} {l : Nat} {env : PySem.Env} (h : notComp e = true) : swapsWith e t l env = pure false := by
  cases e <;> first | rfl | cases h
theorem sp_expr (hn : notComp e = true) (he : PE X e (tE g T W md A)) : PS X (.Expr e pos) (tR g W md (evS T (.expr A))) := by
  refine ⟨fun pins s σ H D I h => (ps_expr he (swaps_no hn)).run pins s σ H D I ?_⟩
  obtain ⟨φ, G, μ, σm, sb, r, st, h⟩ := h
  simp only [evS] at h
  exact ⟨φ, G, μ, σm, sb, r, st, (h.stm st).imp fun v μ1 φ1 G1 H1 e1 r1 k w hw => k.here e1.sub r1 (st.ext e1)⟩
theorem stm_bind {α β : Type} {r : R α} {f : α → Mem → R β} {k : β → Mem → RS} {σm : Env} : (r.bind f).stm σm k = r.stm σm fun a μ => (f a μ).stm σm k := by
  cases r <;> rfl
theorem sp_ite (hc : PT X c (tT g T W md C)) (ha : PSs X a (tR g W md (evB T Ab))) (hb : PSs X b (tR g W md (evB T Bb))) : PS X (.If c a b pos) (tR g W md (evS T (.ite C Ab Bb))) := by
  refine ⟨fun pins s σ H D I h => (ps_if hc ha hb).run pins s σ H D I ?_⟩
  obtain ⟨φ, G, μ, σm, sb, r, st, h⟩ := h
  simp only [evS] at h
  rw [← stm_bind (f := truR) (k := fun k μ => if k then evB T Ab σm μ else evB T Bb σm μ)] at h
  refine ⟨φ, G, μ, σm, sb, r, st, (h.stm st).imp fun k μ1 φ1 G1 H1 e1 r1 q => ?_⟩
  cases k with
  | true =>
    rw [if_pos rfl] at q ⊢
    exact ⟨φ1, G1, μ1, σm, e1.sub, r1, st.ext e1, q⟩
  | false =>
    rw [if_neg Bool.false_ne_true] at q ⊢
    exact ⟨φ1, G1, μ1, σm, e1.sub, r1, st.ext e1, q⟩
/-! ### loops -/
theorem sp_while (hp : PassesOwn (model X.prog X.w) X.A X.env X.xe) (hc : PT X c (tT g T W md C)) (hb : PSs X b (tR g W md (evB T Bb))) : PS X (.While c b [] pos) (tR g W md (evS T (.while C Bb))) := by
  refine ⟨fun pins s σ H D I h => (ps_while hp hc hb).run pins s σ H D I ?_⟩
  obtain ⟨φ, G, μ, σm, sb, r, st, h⟩ := h
  simp only [evS] at h
  generalize hr0 : whileL (fun σ μ => (evE T C σ μ).bind truR) (evB T Bb) T.n σm μ = r0 at h
  refine ⟨fun m σ' H' => ∃ φ1 G1 μ1 σm1, Ext md.adr φ G H φ1 G1 H' ∧ Rel g φ1 G1 μ1 ∧ RSt g φ1 G1 H' md σm1 σ' ∧ whileL (fun σ μ => (evE T C σ μ).bind truR) (evB T Bb) m σm1 μ1 = r0, ⟨T.n, φ, G, μ, σm, Ext.refl sb, r, st, hr0⟩, fun m σ1 H1 hw => ?_⟩
  obtain ⟨φ1, G1, μ1, σm1, e1, r1, st1, hl⟩ := hw
  cases m with
  | zero =>
    simp only [whileL] at hl
    subst hl
    exact h.elim
  | succ m =>
    simp only [whileL] at hl
    rw [← hl] at h
    refine ⟨φ1, G1, μ1, σm1, e1.sub, r1, st1, ?_⟩
    have h1 := GoodS.ext h e1
    refine (GoodS.stm st1 h1).imp2 fun k μ2 φ2 G2 H2 e0 e2 r2 q => ?_
    rw [e0] at hl
    simp only [R.stm] at hl
    have st2 := st1.ext e2
    cases k with
    | false =>
      rw [if_neg Bool.false_ne_true] at q ⊢
      exact q.here e2.sub r2 st2
    | true =>
      rw [if_pos rfl] at q hl ⊢
      refine ⟨fun σ' H' => ∃ φ1 G1 μ1 σm1, Ext md.adr φ G H φ1 G1 H' ∧ Rel g φ1 G1 μ1 ∧ RSt g φ1 G1 H' md σm1 σ' ∧ whileL (fun σ μ => (evE T C σ μ).bind truR) (evB T Bb) m σm1 μ1 = r0, fun σ' H' hN => ⟨m, Nat.lt_succ_self m, hN⟩, φ2, G2, μ2, σm1, e2.sub, r2, st2, ?_⟩
      have e02 : Ext md.adr φ G H φ2 G2 H2 := e1.trans e2.weak
      cases hbb : evB T Bb σm1 μ2 with
      | no => rw [hbb] at q; exact q.elim
      | exc x σ3 μ3 => rw [hbb] at q; exact q
      | ok f μ3 =>
        rw [hbb] at q hl
        cases f with
        | ret v => exact q
        | brk σ3 => exact q
        | next σ3 => exact fun φ3 G3 H3 σ' e3 r3 s3 => ⟨φ3, G3, μ3, σ3, e02.trans e3, r3, s3, hl⟩
        | cnt σ3 => exact fun φ3 G3 H3 σ' e3 r3 s3 => ⟨φ3, G3, μ3, σ3, e02.trans e3, r3, s3, hl⟩
theorem RSt.sto {φ : List Addr} {G H : Hp} {σm σm' : Env} {σ σ' : L2.St} {A : E} (h : RSt g φ G H md σm σ) (hb : ∀ i, i ∉ tgSlots A → σm'[i]? = σm[i]?) (en : REnv g φ G md σm' σ') (st : Sto (tgSlots A) σ σ') (hi : ∀ i ∈ tgSlots A, md.ex i = false) : RSt g φ G H md σm' σ' := by
  refine ⟨en, ?_⟩
  have hs := h.self
  cases md with
  | no => trivial
  | hid0 => trivial
  | ini x =>
    have n0 : 0 ∉ tgSlots A := fun z => by
      have := hi 0 z
      simp [Md.ex] at this
    obtain ⟨C, dx, fs, c, vs, Cl, h1, h3, h4, h5, h6⟩ := hs
    exact ⟨C, dx, fs, c, vs, Cl, by rw [st.2 0 n0]; exact h1, h3, h4, by rw [hb 0 n0]; exact h5, h6⟩
  | exc j a cls dd =>
    have n0 : j ∉ tgSlots A := fun z => by
      have := hi j z
      simp [Md.ex] at this
    obtain ⟨c, vs, h1, h2, h3⟩ := hs
    exact ⟨c, vs, by rw [st.2 j n0]; exact h1, by rw [hb j n0]; exact h2, h3⟩
mutual
theorem bind_out : ∀ (A : E) (v : MV) (σ σ' : Env), bindT A v σ = some σ' → ∀ i, i ∉ tgSlots A → σ'[i]? = σ[i]?
  | .var j, v, σ, σ', h, i, hi => by
    simp only [bindT, Option.some.injEq] at h
    subst h
    simp only [tgSlots, List.mem_singleton] at hi
    exact List.getElem?_set_ne (fun z => hi z.symm)
  | .tup ts, v, σ, σ', h, i, hi => by
    simp only [bindT] at h
    split at h
    · split at h
      · simp only [tgSlots] at hi
        exact binds_out ts _ σ σ' h i hi
      · cases h
    · cases h
  | .non, _, _, _, h, _, _ => by simp only [bindT] at h; cases h
  | .bl _, _, _, _, h, _, _ => by simp only [bindT] at h; cases h
  | .int _, _, _, _, h, _, _ => by simp only [bindT] at h; cases h
  | .str _, _, _, _, h, _, _ => by simp only [bindT] at h; cases h
  | .fn _, _, _, _, h, _, _ => by simp only [bindT] at h; cases h
  | .gc _, _, _, _, h, _, _ => by simp only [bindT] at h; cases h
  | .neg _, _, _, _, h, _, _ => by simp only [bindT] at h; cases h
  | .not _, _, _, _, h, _, _ => by simp only [bindT] at h; cases h
  | .bin _ _ _, _, _, _, h, _, _ => by simp only [bindT] at h; cases h
  | .cmp _ _ _, _, _, _, h, _, _ => by simp only [bindT] at h; cases h
  | .cmp2 _ _ _ _ _, _, _, _, h, _, _ => by simp only [bindT] at h; cases h
  | .and _ _, _, _, _, h, _, _ => by simp only [bindT] at h; cases h
  | .or _ _, _, _, _, h, _, _ => by simp only [bindT] at h; cases h
  | .ite _ _ _, _, _, _, h, _, _ => by simp only [bindT] at h; cases h
  | .lst _, _, _, _, h, _, _ => by simp only [bindT] at h; cases h
  | .fld _ _, _, _, _, h, _, _ => by simp only [bindT] at h; cases h
  | .xfld _ _, _, _, _, h, _, _ => by simp only [bindT] at h; cases h
  | .idx _ _, _, _, _, h, _, _ => by simp only [bindT] at h; cases h
  | .slc _ _ _, _, _, _, h, _, _ => by simp only [bindT] at h; cases h
  | .call _ _, _, _, _, h, _, _ => by simp only [bindT] at h; cases h
  | .callv _ _, _, _, _, h, _, _ => by simp only [bindT] at h; cases h
  | .mk _ _, _, _, _, h, _, _ => by simp only [bindT] at h; cases h
  | .bi _ _, _, _, _, h, _, _ => by simp only [bindT] at h; cases h
  | .mth _ _ _, _, _, _, h, _, _ => by simp only [bindT] at h; cases h
  | .omth _ _ _, _, _, _, h, _, _ => by simp only [bindT] at h; cases h
  | .isin _ _, _, _, _, h, _, _ => by simp only [bindT] at h; cases h
  | .comp _ _ _ _ _, _, _, _, h, _, _ => by simp only [bindT] at h; cases h
  | .comp2 _ _ _ _ _ _ _ _ _, _, _, _, h, _, _ => by simp only [bindT] at h; cases h
  | .rng _, _, _, _, h, _, _ => by simp only [bindT] at h; cases h
  | .obin _ _ _, _, _, _, h, _, _ => by simp only [bindT] at h; cases h
  | .oneg _, _, _, _, h, _, _ => by simp only [bindT] at h; cases h
  | .ocmp _ _ _, _, _, _, h, _, _ => by simp only [bindT] at h; cases h
  | .ostr _, _, _, _, h, _, _ => by simp only [bindT] at h; cases h
  | .fmt _, _, _, _, h, _, _ => by simp only [bindT] at h; cases h
  | .fstr _, _, _, _, h, _, _ => by simp only [bindT] at h; cases h
  | .cdx _ _, _, _, _, h, _, _ => by simp only [bindT] at h; cases h
  | .zip _ _, _, _, _, h, _, _ => by simp only [bindT] at h; cases h
  | .enum _, _, _, _, h, _, _ => by simp only [bindT] at h; cases h
theorem binds_out : ∀ (As : List E) (vs : List MV) (σ σ' : Env), bindT.go As vs σ = some σ' → ∀ i, i ∉ tgSlotss As → σ'[i]? = σ[i]?
  | [], [], σ, σ', h, i, _ => by
    simp only [bindT.go, Option.some.injEq] at h
    rw [h]
  | [], _ :: _, _, _, h, _, _ => by simp only [bindT.go] at h; cases h
  | _ :: _, [], _, _, h, _, _ => by simp only [bindT.go] at h; cases h
  | A :: As, v :: vs, σ, σ', h, i, hi => by
    simp only [bindT.go] at h
    obtain ⟨σ1, h1, h2⟩ := Option.bind_eq_some_iff.mp h
    simp only [tgSlotss, List.mem_append, not_or] at hi
    rw [binds_out As vs σ1 σ' h2 i hi.2, bind_out A v σ σ1 h1 i hi.1]
end
theorem sp_for {tg iter : PySem.Expr} {TG IT : E} (hp : PassesOwn (model X.prog X.w) X.A X.env X.xe) (hc : X.calm = true) (hf : notSet iter = true) (hs0 : ∀ i ∈ tgSlots TG, md.ex i = false) (hi : PI X tg iter (tI g T W md IT)) (hg : PG X tg (gB g md TG)) (hb : PSs X b (tR g W md (evB T Bb))) :
    PS X (.For tg iter b [] pos) (tR g W md (evS T (.for TG IT Bb))) := by
  refine ⟨fun pins s σ H D I h => (ps_for hp hc hi hg hb (fold_of hf)).run pins s σ H D I ?_⟩
  obtain ⟨φ, G, μ, σm, sb, r, st, h⟩ := h
  simp only [evS] at h
  rw [← stm_bind (f := fun J μ => itM μ J)] at h
  refine ⟨φ, G, μ, σm, sb, r, st, (h.stm st).imp fun J μ1 φ1 G1 H1 e1 r1 q J' hJ => ?_⟩
  have st1 := st.ext e1
  generalize hr0 : forL J (bindT TG) (evB T Bb) T.n 0 σm μ1 = r0 at q
  refine ⟨fun i m σ' H' => ∃ φ2 G2 μ2 σm2, Ext md.adr φ1 G1 H1 φ2 G2 H' ∧ Rel g φ2 G2 μ2 ∧ RSt g φ2 G2 H' md σm2 σ' ∧ ItR g φ2 G2 J J' ∧ forL J (bindT TG) (evB T Bb) m i σm2 μ2 = r0, ⟨T.n, φ1, G1, μ1, σm, Ext.refl e1.sub, r1, st1, hJ, hr0⟩, fun i m σ2 H2 hw => ?_⟩
  obtain ⟨φ2, G2, μ2, σm2, e2, r2, st2, hJ2, hl⟩ := hw
  cases m with
  | zero =>
    simp only [forL] at hl
    subst hl
    exact q.elim
  | succ m =>
    simp only [forL] at hl
    have q2 := GoodS.ext q e2
    split at hl
    · rename_i x hn
      obtain ⟨hgo, hyld⟩ := it_go r2 e2.sub hJ2 hn
      refine .inr ⟨hgo, fun σ' H' => ∃ φ2 G2 μ2 σm2, Ext md.adr φ1 G1 H1 φ2 G2 H' ∧ Rel g φ2 G2 μ2 ∧ RSt g φ2 G2 H' md σm2 σ' ∧ ItR g φ2 G2 J J' ∧ forL J (bindT TG) (evB T Bb) m (i + 1) σm2 μ2 = r0, fun σ' H' hN => ⟨m, Nat.lt_succ_self m, hN⟩, fun v H3 hy => ?_⟩
      obtain ⟨G3, e3, r3, rx⟩ := hyld v H3 hy
      have st3 := st2.ext e3
      have q3 := GoodS.ext q2 e3.weak
      have e13 : Ext md.adr φ1 G1 H1 φ2 G3 H3 := e2.trans e3.weak
      split at hl
      · rename_i σm3 hbt
        refine ⟨φ2, G3, x, σm2, σm3, e3.sub, rx, st3.env, hbt, fun σ' en' sto => ?_⟩
        have st4 := st3.sto (bind_out TG x σm2 σm3 hbt) en' sto hs0
        refine ⟨φ2, G3, μ2, σm3, e3.sub, r3, st4, ?_⟩
        rw [← hl] at q3
        cases hbb : evB T Bb σm3 μ2 with
        | no => rw [hbb] at q3; exact q3.elim
        | exc x σ3 μ3 => rw [hbb] at q3; exact q3
        | ok f μ3 =>
          rw [hbb] at q3 hl
          cases f with
          | ret v => exact q3
          | brk σ3 => exact q3
          | next σ3 => exact fun φ4 G4 H4 σ' e4 r4 s4 => ⟨φ4, G4, μ3, σ3, e13.trans e4, r4, s4, (hJ2.ext e3).ext e4, hl⟩
          | cnt σ3 => exact fun φ4 G4 H4 σ' e4 r4 s4 => ⟨φ4, G4, μ3, σ3, e13.trans e4, r4, s4, (hJ2.ext e3).ext e4, hl⟩
      · rw [← hl] at q3
        exact q3.elim
    · rename_i hn
      rw [← hl] at q2
      exact .inl ⟨it_stop r2 e2.sub hJ2 hn, q2.here e2.sub r2 st2⟩
    · rw [← hl] at q2
      exact q2.elim
/-! ### assignments -/
def GoodA (g : Glob) (md : Md) (φ : List Addr) (G H : Hp) (Q : L2.St → Hp → Prop) : R Env → Prop
  | .ok σm μ => ∀ φ1 G1 H1 σ', Ext md.adr φ G H φ1 G1 H1 → Rel g φ1 G1 μ → RSt g φ1 G1 H1 md σm σ' → Q σ' H1
  | _ => False
theorem GoodA.ext {φ φ1 : List Addr} {G G1 H H1 : Hp} {Q : L2.St → Hp → Prop} {r : R Env} (h : GoodA g md φ G H Q r) (e : Ext md.adr φ G H φ1 G1 H1) : GoodA g md φ1 G1 H1 Q r := by
  cases r with
  | ok σm μ => exact fun φ2 G2 H2 σ' e2 r2 s2 => h φ2 G2 H2 σ' (e.trans e2) r2 s2
  | _ => exact h
def gA (g : Glob) (T : Tab) (md : Md) (A : E) : TG := fun v σ H Q => ∃ φ G μ x σm, Sub G H ∧ Rel g φ G μ ∧ RV g φ G x v ∧ RSt g φ G H md σm σ ∧ GoodA g md φ G H Q (asgT T A x σm μ)
def gAs (g : Glob) (T : Tab) (md : Md) (As : List E) : TGs := fun vs σ H Q => ∃ φ G μ xs σm, Sub G H ∧ Rel g φ G μ ∧ RVs g φ G xs vs ∧ RSt g φ G H md σm σ ∧ GoodA g md φ G H Q (asgT.go T As xs σm μ)
theorem ga_var {i : Nat} {x : Str} (hN : X.N.Nodup) (hi : X.N[i]? = some x) (hx : Loc X.env.scope x) (hf : X.fn x = true ∨ X.env.scope.names.lookup x = some .local) (h0 : md.ex i = false) : PG X (.Name x pos) (gA g T md (.var i)) := by
  refine ⟨fun pins s σ H v u Q I r h => (pg_name hN hi hx hf).run pins s σ H v u Q I r ?_⟩
  obtain ⟨φ, G, μ, x, σm, sb, rl, rv, st, h⟩ := h
  simp only [asgT] at h
  exact h φ G H _ (Ext.refl sb) rl (st.set rv h0)
theorem gas_nil : PGs X [] (gAs g T md []) := by
  refine ⟨fun pins s σ H vs us Q I r h => pgs_nil.run pins s σ H vs us Q I r ?_⟩
  obtain ⟨φ, G, μ, xs, σm, sb, rl, rv, st, h⟩ := h
  cases xs with
  | nil =>
    simp only [RVs] at rv
    simp only [asgT.go] at h
    exact ⟨rv, h φ G H _ (Ext.refl sb) rl st⟩
  | cons x xs => simp only [asgT.go] at h; exact h.elim
theorem gas_cons {t : PySem.Expr} {ts : List PySem.Expr} {A : E} {As : List E} (hp : plain t = true) (h1 : PG X t (gA g T md A)) (h2 : PGs X ts (gAs g T md As)) : PGs X (t :: ts) (gAs g T md (A :: As)) := by
  refine ⟨fun pins s σ H vs us Q I r h => (pgs_cons h1 h2 (by rw [assign_cons hp]; rfl)).run pins s σ H vs us Q I r ?_⟩
  obtain ⟨φ, G, μ, xs, σm, sb, rl, rv, st, h⟩ := h
  cases xs with
  | nil => simp only [asgT.go] at h; exact h.elim
  | cons x xs =>
    simp only [RVs] at rv
    obtain ⟨v, vr, rfl, hv, hr⟩ := rv
    simp only [asgT.go] at h
    refine ⟨v, vr, rfl, φ, G, μ, x, σm, sb, rl, hv, st, ?_⟩
    cases e0 : asgT T A x σm μ with
    | ok σ1 μ1 =>
      rw [e0] at h
      exact fun φ1 G1 H1 σ' e1 r1 s1 => ⟨φ1, G1, μ1, xs, σ1, e1.sub, r1, hr.ext e1, s1, GoodA.ext (r := asgT.go T As xs σ1 μ1) h e1⟩
    | exc x' μ1 => rw [e0] at h; exact h.elim
    | no => rw [e0] at h; exact h.elim
theorem ga_tup {ts : List PySem.Expr} {As : List E} {j : Nat} (hc : X.calm = true) (hK : g.K = X.K) (hp : ts.all plain = true) (hl : ts.length = As.length) (h : PGs X ts (gAs g T md As)) : PG X (.Tuple ts j pos) (gA g T md (.tup As)) := by
  obtain ⟨a1, a2⟩ := assign_len (env := X.env) hp
  refine ⟨fun pins s σ H v u Q I r hh => ?_⟩
  obtain ⟨φ, G, μ, x, σm, sb, rl, rv, st, hh⟩ := hh
  simp only [asgT] at hh
  split at hh
  · rename_i xs
    split at hh
    · rename_i hlen
      refine (pg_tup hc h rfl a2).run pins s σ H v u Q I r ?_
      simp only [RV] at rv
      obtain ⟨a, vs, rfl, hq, hr⟩ := rv
      rw [hK] at hq
      exact ⟨a, vs, rfl, sqT_sub sb hq, by rw [a1, hl, ← hr.len, hlen], φ, G, μ, xs, σm, sb, rl, hr, st, hh⟩
    · exact hh.elim
  · split at hh
    · rename_i i xs e
      split at hh
      · rename_i hlen
        refine (pg_lst hc h rfl a2).run pins s σ H v u Q I r ?_
        obtain ⟨a, vs, rfl, _, hq, hr⟩ := rl.ref e rv
        rw [hK] at hq
        exact ⟨a, vs, rfl, sqL_sub sb hq, by rw [a1, hl, ← hr.len, hlen], φ, G, μ, xs, σm, sb, rl, hr, st, hh⟩
      · exact hh.elim
    · exact hh.elim
  · exact hh.elim
/-- xs[i] = v by values, whatever -/
def rSetM (g : Glob) : TSet := fun o i v H Q => ∃ φ G μ x y z, Sub G H ∧ Rel g φ G μ ∧ RV g φ G x o ∧ RV g φ G y i ∧ RV g φ G z v ∧ Good g W0 [] φ G H (setM μ x y z) fun _ _ _ _ H1 => Q H1
theorem set_noX {μ : Mem} {x y z : MV} (x' : MX) (μ' : Mem) : setM μ x y z ≠ .exc x' μ' := by
  unfold setM
  split
  · split
    · split <;> simp
    · simp
  · simp
theorem setR_ok : PSet X (rSetM g) := by
  intro pins s σ H o i v ov iv u Q I ro ri rv h
  obtain ⟨φ, G, μ, x, y, z, sb, r, rx, ry, rz, h⟩ := h
  exact set_ok (W := W0) I r sb (h.noX fun x' μ' => set_noX x' μ') rx ry rz ro ri rv
theorem asg_sub {o i : PySem.Expr} {env : PySem.Env} (h : notSlice i = true) (v : Value) : assign (.Subscript o i pos) env v = (do
      let ov ← holding [v] (eval o env)
      let iv ← holding [v, ov] (eval i env)
      standAt pos
      holding [v, ov, iv] (setItem ov iv v)
      release [v, ov, iv] []) := by
  cases i <;> first | rfl | cases h
theorem ga_idx {o i : PySem.Expr} {O B : E} (hn : notSlice i = true) (ho : PE X o (tE g T W md O)) (hi : PE X i (tE g T W md B)) : PG X (.Subscript o i pos) (gA g T md (.idx O B)) := by
  refine ⟨fun pins s σ H v u Q I r h => (pg_sub ho hi (setR_ok (g := g)) (asg_sub hn)).run pins s σ H v u Q I r ?_⟩
  obtain ⟨φ, G, μ, x, σm, sb, rl, rv, st, h⟩ := h
  simp only [asgT] at h
  cases e0 : evE T O σm μ with
  | no => rw [e0] at h; exact h.elim
  | exc x' μ1 => rw [e0] at h; exact h.elim
  | ok y μ1 =>
    rw [e0] at h
    simp only [R.bind] at h
    cases e1 : evE T B σm μ1 with
    | no => rw [e1] at h; exact h.elim
    | exc x' μ2 => rw [e1] at h; exact h.elim
    | ok z μ2 =>
      rw [e1] at h
      simp only at h
      cases e2 : setM μ2 y z x with
      | no => rw [e2] at h; exact h.elim
      | exc x' μ3 => rw [e2] at h; exact h.elim
      | ok _ μ3 =>
        rw [e2] at h
        simp only at h
        refine ⟨φ, G, μ, σm, sb, rl, st, good_ok e0 fun φ1 G1 H1 x1 r1 w hw => ⟨φ1, G1, μ1, σm, x1.sub, r1, st.ext x1, good_ok e1 fun φ2 G2 H2 x2 r2 w2 hw2 => ?_⟩⟩
        refine ⟨φ2, G2, μ2, y, z, x, x2.sub, r2, hw.ext x2, hw2, (rv.ext x1).ext x2, ?_⟩
        refine good_ok e2 fun φ3 G3 H3 x3 r3 => ?_
        exact h φ3 G3 H3 σ ((x1.trans x2).trans x3).weak r3 (((st.ext x1).ext x2).ext x3)
theorem assign1 {t : PySem.Expr} {env : PySem.Env} (h : plain t = true) : (assignEach [t] env).map (·.2) = [assign t env] := by
  rw [assign_cons h]
  rfl
def notSeq : PySem.Expr → Bool
  | .Tuple _ _ _ => false
  | .List _ _ => false
  | _ => true
theorem sw_none {t : PySem.Expr} {env : PySem.Env} (h : notSeq t = true ∨ notSeq e = true) : swappedStores [t] e env = pure none := by
  unfold swappedStores
  split
  · rename_i h2
    exfalso
    split at h2
    · rename_i heq
      rcases h with h | h
      · simp only [List.cons.injEq, and_true] at heq
        subst heq
        cases h
      · cases h
    · rename_i heq
      rcases h with h | h
      · simp only [List.cons.injEq, and_true] at heq
        subst heq
        cases h
      · cases h
    · cases h2
  · rfl
theorem sp_asg {t : PySem.Expr} {TT : E} (hn : notComp e = true) (hp : plain t = true) (hw : swappedStores [t] e X.env = pure none) (he : PE X e (tE g T W md A)) (hg : PG X t (gA g T md TT)) : PS X (.Assign [t] e pos) (tR g W md (evS T (.asg TT A))) := by
  refine ⟨fun pins s σ H D I h => (ps_asg he hg (swaps_no hn) hw (assign1 hp)).run pins s σ H D I ?_⟩
  obtain ⟨φ, G, μ, σm, sb, r, st, h⟩ := h
  simp only [evS] at h
  refine ⟨φ, G, μ, σm, sb, r, st, (h.stm st).imp fun v μ1 φ1 G1 H1 e1 r1 k w hw => ⟨φ1, G1, μ1, v, σm, e1.sub, r1, hw, st.ext e1, ?_⟩⟩
  cases e0 : asgT T TT v σm μ1 with
  | ok σ1 μ2 => rw [e0] at k; exact k
  | exc x' μ2 => rw [e0] at k; exact k.elim
  | no => rw [e0] at k; exact k.elim
end
end Mch

/-! ## try with several clauses, each with a name or without -/
namespace Mch
open PySem PySem.Spec PyProof.Rows L2
/-- how a suite goes on behind its clause: the name is unbound -/
def outOf (n : Option Nat) (D : Ends) : Ends := match n with
  | none => D
  | some i => { nx := fun σ H => D.nx (σ.set i none) H, rt := D.rt, bk := fun σ H => D.bk (σ.set i none) H, ct := fun σ H => D.ct (σ.set i none) H }
def intoS (n : Option Nat) (a : Addr) (σ : L2.St) : L2.St := match n with
  | none => σ
  | some i => σ.set i (some (.ref a))
/-- a clause: its class, its name's slot, its suite -/
structure Clause where
  c : Value
  n : Option Nat
  ts : Addr → Value → Option Addr → TS
def wCl (K : PySem.W.Frag) (Wout : WX) (D : Ends) : List Clause → WX
  | [] => Wout
  | l :: r => fun cls d σ H => ∃ b, PySem.W.exmOne K cls l.c = some b ∧ (b = true → ∀ a, H a = none → l.ts a cls d (outOf l.n D) (intoS l.n a σ) H) ∧ (b = false → wCl K Wout D r cls d σ H)
/-- how a clause's name is written -/
def NameAt (X : Cx) : Option Str → Option Nat → Prop
  | none, none => True
  | some n, some i => X.N[i]? = some n ∧ X.env.kindOf n = some .local
  | _, _ => False
inductive Clauses (X : Cx) : List ExceptHandler → List Clause → Prop
  | nil : Clauses X [] []
  | cons {x : Str} {n : Option Str} {l : Clause} {b₀ : Stmt} {suite : List Stmt} {np pos' : Pos} {hds : List ExceptHandler} {ls : List Clause} (hc : Names X x l.c) (hn : NameAt X n l.n)
      (hsu : ∀ (a : Addr) (oe : Obj) (cls : Value) (d : Option Addr) (pn : List (Addr × Obj)), Zc cls d oe → (∃ vs, oe.data = .fields vs) → PSs (X.suite a ((a, oe) :: pn)) (b₀ :: suite) (l.ts a cls d)) (r : Clauses X hds ls) :
      Clauses X (.ExceptHandler (some (.Name x np)) n (b₀ :: suite) pos' :: hds) (l :: ls)
section
variable {X : Cx} {body : List Stmt} {h₀ : ExceptHandler} {hds : List ExceptHandler} {ls : List Clause} {pos : Pos} {tb : WX → TS} {Wout : WX}
theorem sp_flow {pins : List (Addr × Obj)} {D : Ends} {f : Flow} {s1 : Shared} {pn : List (Addr × Obj)} {xe : Value → Shared → Prop} (ok : X.Ok) (h : SP (X.tr (X.pn ++ pins) xe) [] D f s1) : SP X pins D f s1 := by
  cases f with
  | next => exact let ⟨σ, H, J, q⟩ := h; ⟨σ, H, J.ofTry ok, q⟩
  | brk => exact let ⟨σ, H, J, q⟩ := h; ⟨σ, H, J.ofTry ok, q⟩
  | cont => exact let ⟨σ, H, J, q⟩ := h; ⟨σ, H, J.ofTry ok, q⟩
  | ret u => exact let ⟨v, σ, H, J, r, q⟩ := h; ⟨v, σ, H, J.ofTry ok, r, q⟩
theorem sp_un {pins : List (Addr × Obj)} {D : Ends} {f : Flow} {s1 : Shared} {a : Addr} {oe : Obj} (ok : X.Ok) (h : SP (X.suite a ((a, oe) :: (X.pn ++ pins))) [] D f s1) : SP X pins D f s1 := by
  cases f with
  | next => exact let ⟨σ, H, J, q⟩ := h; ⟨σ, H, J.unsuite ok, q⟩
  | brk => exact let ⟨σ, H, J, q⟩ := h; ⟨σ, H, J.unsuite ok, q⟩
  | cont => exact let ⟨σ, H, J, q⟩ := h; ⟨σ, H, J.unsuite ok, q⟩
  | ret u => exact let ⟨v, σ, H, J, r, q⟩ := h; ⟨v, σ, H, J.unsuite ok, r, q⟩
/-- the exception at a has landed: the clauses are asked in turn -/
theorem clauses_ok {pins : List (Addr × Obj)} {σ' : L2.St} {H' : Hp} {sI s' : Shared} {B h3 : Heap} {a : Addr} {cls : Value} {d : Option Addr} {D : Ends} (hst : X.stack = X.env :: X.outer) (hf : X.env.frame = some X.env.locals) (hN : X.N.Nodup) (tk : Takes X Wout)
    (J : Inv X pins σ' H' sI) (nb : ∀ b o, sI.heap.get? b = some o → b ∉ frs X.stack → B.get? b = some o) (up3 : sI.heap.UpToSlots h3) (fl3 : HandSPX.FlyingZ B (X.env :: X.outer) a (Zc cls d) h3) (na : H' a = none) (os : s'.os = sI.os) (ag : AllBare s'.gens) :
    ∀ {hds : List ExceptHandler} {ls : List Clause}, Clauses X hds ls → wCl X.K Wout D ls cls d σ' H' → wpAny (model X.prog X.w) X.A (handleBy (.ref a) X.env hds) (SP X pins D) X.xe { s' with heap := h3 } := by
  have ok := J.ok
  have J3 : Inv X pins σ' H' { s' with heap := h3 } := J.landed nb fl3.1 up3 os ag
  obtain ⟨oe3, vs3, he3, hz3, hd3⟩ := fl3.there
  have nfr : a ∉ frs (X.env :: X.outer) := fun hm => by
    obtain ⟨_, o, e, hno⟩ := fl3.2.2.1.mem hm
    rw [he3] at e
    cases e
    exact hno _ hd3
  have nL : a ≠ X.env.locals := fun z => nfr (List.mem_filterMap.mpr ⟨X.env, List.mem_cons_self, by rw [hf, z]⟩)
  have nF : a ∉ X.fs := fun hm => by
    obtain ⟨e, he, q⟩ := List.mem_filterMap.mp hm
    exact nfr (List.mem_filterMap.mpr ⟨e, List.mem_cons_of_mem _ he, q⟩)
  have S3 := J3.suite he3 hd3 na nL nF
  intro hds ls hk
  induction hk with
  | nil =>
    intro w
    refine wpAny_handleBy_nil ?_
    obtain ⟨k1, k2, k3, oe, vs, TT, oT, ts', he, hz, hd, h1, hr⟩ := _root_.id fl3
    unfold PySem.passOn
    refine wpAny_bind (wpAny_field he hd h1 ?_)
    rw [if_neg (show ¬ ((Value.ref TT == Value.none) = true) from by simp)]
    have fin : wpAny (model X.prog X.w) X.A (setFlight (.ref a) X.env.frame) (fun _ s4 => wpAny (model X.prog X.w) X.A (throw (.ref a) : Sem Flow) (SP X pins D) X.xe s4) X.xe { s' with heap := h3 } := by
      rw [hf]
      refine HandSPX.setFlight_upZ fl3 fun h4 hh4 up4 => wpAny_throw (tk _ _ ?_)
      exact ⟨a, B, sI, pins, σ', H', cls, d, rfl, J, nb, up3.trans up4, .inr (.inr (by rw [hst]; exact hh4)), na, os, ag, w⟩
    first
      | exact wpAny_bind (wpAny_pure (wpAny_bind fin))
      | exact wpAny_bind fin
  | @cons x n l b₀ suite np pos' hds2 ls2 hc hn hsu r ih =>
    intro w
    obtain ⟨b, hb1, hyes, hno⟩ := w
    refine wpAny_handleBy_cons (codeAny_handlers_test ?_) (by intro q; cases q)
    have LT : PySem.W.Looks (model X.prog X.w) h3 (typeOf (.ref a)) cls := fun A Q E s k q => wpAny_typeOf_ref (k _ _ he3) (by rw [hz3.1]; exact q)
    have LM := PySem.W.exm_one (M := model X.prog X.w) (J3.kIn) LT hb1
    have look : ∀ {Q : Value → Shared → Prop} {E : Value → Shared → Prop}, Q l.c { s' with heap := h3 } → wpAny (model X.prog X.w) (X.A.mark (some (.ref a))) (eval (.Name x np) X.env) Q E { s' with heap := h3 } := fun {Q E} q => by
      obtain ⟨hg, hdbg, hm | ⟨hm, hv, hnn⟩⟩ := hc
      · exact ld_glob (X := X.suite a ((a, oe3) :: (X.pn ++ pins))) S3 hg hm q hdbg
      · exact ld_blt (X := X.suite a ((a, oe3) :: (X.pn ++ pins))) S3 hg hm hv q hnn hdbg
    refine look (LM.here ?_)
    cases b with
    | false =>
      show wpAny _ X.A (handleBy (.ref a) X.env hds2) _ _ _
      exact ih (hno rfl)
    | true =>
      have body := hyes rfl a na
      obtain ⟨lc, ln, lts⟩ := l
      cases n with
      | none =>
        cases ln with
        | some i => exact hn.elim
        | none =>
          refine codeAny_handlers_suite ?_
          refine HandSPX.lands_againZ fl3 fun h4 fl4 up4 => ?_
          have J4 : Inv X pins σ' H' { s' with heap := h4 } := J.landed nb fl4.1 (up3.trans up4) os ag
          obtain ⟨oe4, vs4, he4, hz4, hd4⟩ := fl4.there
          have S4 := J4.suite he4 hd4 na nL nF
          exact wpAny_mono ((hsu a oe4 cls d (X.pn ++ pins) hz4 ⟨_, hd4⟩).run [] _ _ H' _ S4 body) (fun f s6 hsp => sp_un ok hsp) (fun _ _ z => False.elim z)
      | some n =>
        cases ln with
        | none => exact hn.elim
        | some i =>
          obtain ⟨hi, hln⟩ := hn
          refine codeAny_handlers_suite_as ?_
          refine HandSPX.lands_againZ fl3 fun h4 fl4 up4 => ?_
          have J4 : Inv X pins σ' H' { s' with heap := h4 } := J.landed nb fl4.1 (up3.trans up4) os ag
          obtain ⟨oe4, vs4, he4, hz4, hd4⟩ := fl4.there
          have S4 := J4.suite he4 hd4 na nL nF
          refine store_ok (X := X.suite a ((a, oe4) :: (X.pn ++ pins))) (v := .ref a) S4 hN hi (.inl hln) rfl (fun s5 S5 => ?_) (.inr hln)
          refine wpAny_mono ((hsu a oe4 cls d (X.pn ++ pins) hz4 ⟨_, hd4⟩).run [] s5 _ H' _ S5 body) (fun f s6 hsp => ?_) (fun _ _ z => False.elim z)
          have gone : ∀ {σ6 : L2.St} {H6 : Hp} {Q : Shared → Prop}, Inv (X.suite a ((a, oe4) :: (X.pn ++ pins))) [] σ6 H6 s6 → (∀ s7, Inv X pins (σ6.set i none) H6 s7 → Q s7) →
              wpAny (model X.prog X.w) X.A (do bindName X.env n .none; unbindBehindTheSuite X.env n pos') (fun _ s7 => Q s7) X.xe s6 := fun {σ6 H6 Q} S6 hq => gone_ok (S6.unsuite ok) hN hi hln hq
          cases f with
          | next => exact let ⟨σ6, H6, S6, q6⟩ := hsp; gone S6 fun s7 J7 => ⟨_, _, J7, q6⟩
          | brk => exact let ⟨σ6, H6, S6, q6⟩ := hsp; gone S6 fun s7 J7 => ⟨_, _, J7, q6⟩
          | cont => exact let ⟨σ6, H6, S6, q6⟩ := hsp; gone S6 fun s7 J7 => ⟨_, _, J7, q6⟩
          | ret u => exact let ⟨v6, σ6, H6, S6, r6, q6⟩ := hsp; gone S6 fun s7 J7 => ⟨_, _, _, J7, r6, q6⟩
theorem ps_clauses (hst : X.stack = X.env :: X.outer) (hf : X.env.frame = some X.env.locals) (hN : X.N.Nodup) (tk : Takes X Wout)
    (hb : ∀ (W : WX) (pn : List (Addr × Obj)) (xe : Value → Shared → Prop), Takes (X.tr pn xe) W → PassesOwn (model X.prog X.w) X.A X.env xe → PSs (X.tr pn xe) body (tb W))
    (hh : Clauses X (h₀ :: hds) ls) : PS X (.Try body (h₀ :: hds) [] [] pos) (fun D σ H => tb (wCl X.K Wout D ls) D σ H) := by
  refine ⟨fun pins s σ H D I h => ?_⟩
  have ok := I.ok
  have hfr : X.A.frames = some (X.env :: X.outer) := by rw [ok.frames, hst]
  refine wpAny_Try_except ?_
  refine wpAny_mono ((hb (wCl X.K Wout D ls) (X.pn ++ pins) (fun e s₁ => wpAny (model X.prog X.w) X.A (noteFrame e X.env) (fun _ s₂ => wpAny (model X.prog X.w) X.A (setFlight e none) (fun _ s₃ =>
    wpAny (model X.prog X.w) X.A (handleBy e X.env (h₀ :: hds)) (SP X pins D) X.xe s₃) X.xe s₂) X.xe s₁) (fun u s' xx => ?_) PassesOwn.looking).run [] s σ H D (I.toTry _) h) (fun f s1 hsp => ?_) (fun e s1 he => he)
  · obtain ⟨a, B, sI, pins', σ', H', cls, d, rfl, J', nb, up, sky, na, os, ag, w⟩ := xx
    have J : Inv X pins σ' H' sI := J'.ofTry ok
    rw [show (X.tr (X.pn ++ pins) _).stack = X.env :: X.outer from hst] at sky
    refine Sky.land Zc.steady hfr hf sky fun h3 fl3 up3 => ?_
    exact clauses_ok hst hf hN tk J nb (up.trans up3) fl3 na os ag hh w
  · have hsp' : SP X pins D f s1 := sp_flow (pn := []) ok hsp
    cases f with
    | next => exact wpAny_execs_nil hsp'
    | brk => exact hsp'
    | cont => exact hsp'
    | ret u => exact hsp'
end
end Mch

/-! ## Raising, catching, several names at once, comprehensions stored -/
namespace Mch
open PySem PySem.Spec PyProof.Rows L2
/-- what the head says of the classes of exceptions -/
structure ExcG (g : Glob) : Prop where
  exm : ∀ c d C D Cl Dl, g.cA c = some C → g.cA d = some D → g.P.clss[c]? = some Cl → g.P.clss[d]? = some Dl → Cl.exc = true → Dl.exc = true → PySem.W.exmOne g.K (.ref C) (.ref D) = some (decide (d ∈ Cl.up))
  fld : ∀ c C Cl, g.cA c = some C → g.P.clss[c]? = some Cl → Cl.exc = true → XfC g.K C ∧ ∀ f ∈ Cl.fields, PySem.W.findIn g.K (.ref C) f = some none
  own : ∀ c C Cl, g.cA c = some C → g.P.clss[c]? = some Cl → Cl.exc = true → PySem.W.keepIn g.K (.ref C) = true ∧ PySem.W.subIn g.K (.ref C) (.type "BaseException") = some true ∧ PySem.W.typeIn g.K (.ref C) = some (.type "type")
  new : ∀ c C Cl, g.cA c = some C → g.P.clss[c]? = some Cl → Cl.exc = true → Cl.fields = [] → PySem.W.excIn g.K C He.veBase "ValueError.__new__" = true
section
variable {X : Cx} {g : Glob} {T : Tab} {W : WX} {md : Md} {pos : Pos} {e c : PySem.Expr} {A C : E} {a b : List Stmt} {Ab Bb : List S}
/-! ### raise X('..') -/
theorem sp_raise0 {x m : Str} {j ci : Nat} {Ca : Addr} {Cl : ClsM} {p p2 pos' : Pos} (hc : X.calm = true) (tk : Takes X W) (hE : ExcG g) (hT : T.P = g.P) (hK : g.K = X.K) (hA : g.cA ci = some Ca) (hl : g.P.clss[ci]? = some Cl) (hx : Cl.exc = true) (hf : Cl.fields = [])
    (hg : Gl X x) (hm : X.mg x = some (.ref Ca)) (hdb : (x == ("__debug__" : Str)) = false) :
    PS X (.Raise (some (.Call (.Name x p) [.Constant (.str m) j p2] [] pos')) none pos) (tR g W md (evS T (.raise ci [.str m]))) := by
  obtain ⟨h1, h2, h3⟩ := hE.own ci Ca Cl hA hl hx
  have h4 := hE.new ci Ca Cl hA hl hx hf
  rw [hK] at h1 h2 h3 h4
  refine ⟨fun pins s σ H D I h => (ps_raise hc tk (pmk_own PySem.F.excBase_ValueError h4 hm h1 (raises_own h2 h3) hg hdb)).run pins s σ H D I ?_⟩
  obtain ⟨φ, G, μ, σm, sb, r, st, h⟩ := h
  simp only [evS, evEs, evE, R.bind, R.stm] at h
  have hmk : mkX T.P ci [.str m] = some ⟨ci, []⟩ := by
    unfold mkX
    rw [hT, hl]
    simp only [hf]
  rw [hmk] at h
  exact h φ G H σ (Ext.refl sb) r st _ _ ⟨Ca, Cl, hA, hl, rfl, .inl ⟨rfl, hf, rfl⟩⟩
/-! ### the exception's field in a suite -/
theorem sx_fld {i : Nat} {f n : Str} {p : Pos} {aa : Addr} {oe : Obj} {cls : Value} {d : Option Addr} {pn : List (Addr × Obj)} (hE : ExcG g) (hT : T.P = g.P) (hK : g.K = X.K) (hz : Zc cls d oe) (hf : ∃ vs, oe.data = .fields vs)
    (he : PE (X.suite aa ((aa, oe) :: pn)) (.Name n p) (tVar i)) : PE (X.suite aa ((aa, oe) :: pn)) (.Attribute (.Name n p) f pos) (tE g T W0 (.exc i aa cls d) (.xfld i f)) := by
  refine ⟨fun pins s σ H Q I h => ?_⟩
  obtain ⟨φ, G, μ, σm, sb, r, st, h⟩ := h
  obtain ⟨c, vs, h1, h2, C, Cl, h3, h4, h5, h6⟩ := st.self
  simp only [evE, h2] at h
  obtain ⟨z, hzz, q⟩ := Good.opt h sb r
  rw [hT] at hzz
  have h4' : g.P.clss[c]? = some Cl := h4
  rw [h4'] at hzz
  simp only [Option.bind_some] at hzz
  split at hzz
  · cases hzz
  · rename_i hex
    obtain ⟨jj, e1, e2⟩ := Option.bind_eq_some_iff.mp hzz
    rcases h6 with ⟨h7, h8, h9⟩ | ⟨dd, fs, h7, h8, h9, h10, h11⟩
    · rw [h8] at e1
      cases e1
    · have hex' : Cl.exc = true := by simpa using hex
      obtain ⟨x1, x2⟩ := hE.fld c C Cl h3 h4 hex'
      obtain ⟨u, e3, e4⟩ := h11.get e2
      rw [← h10] at e1
      have hff : f ∈ Cl.fields := by
        rw [← h10]
        exact List.isSome_idxOf?.mp (by rw [e1]; rfl)
      have x3 := x2 f hff
      rw [hK] at x1 x3
      refine (pe_xf x1 x3 hz hf he).run pins s σ H Q I ⟨.ref aa, h1, rfl, h5, dd, fs, u, h7, h8, idx_lookup e1 e3, q u e4⟩
/-! ### two, three names at once -/
def swK (sc : Scope) (ts vs : List PySem.Expr) : Option (Option (List Str)) :=
  if (!(ts.length == 2 || ts.length == 3) || vs.length != ts.length) = true then some none
  else if (vs.any fun | .Starred .. => true | _ => false) = true then some none
  else
    let line := (ts.head?.map (·.pos.line)).getD 0
    let names := ts.filterMap fun
      | .Name id pos => if sc.names.lookup id == some .local && pos.line == line then some id else none
      | _ => none
    if (names.length != ts.length || names.eraseDups.length != names.length) = true then some none
    else if vs.all (foldedForSure 8) = true then some none
    else if vs.all (constantsAlone 8) = true then none
    else some (some names)
theorem swK_ok {sc : Scope} {ts vs : List PySem.Expr} {r : Option (List Str)} {env : PySem.Env} {k k2 : Nat} {p p2 : Pos} (hs : env.scope = sc) (hb : env.blockKind = .function) (h : swK sc ts vs = some r) : swappedStores [.Tuple ts k p] (.Tuple vs k2 p2) env = pure r := by
  subst hs
  unfold swK at h
  unfold swappedStores
  have e0 : (ScopeKind.function != ScopeKind.function) = false := by decide
  by_cases c1 : (!(ts.length == 2 || ts.length == 3) || vs.length != ts.length) = true
  · rw [if_pos c1] at h
    cases h
    exact if_pos (by rw [hb, e0, Bool.or_false]; exact c1)
  rw [if_neg c1] at h
  refine Eq.trans (if_neg (by rw [hb, e0, Bool.or_false]; exact c1)) ?_
  split at h
  · rename_i c2
    cases h
    exact if_pos c2
  rename_i c2
  refine Eq.trans (if_neg c2) ?_
  simp only at h
  split at h
  · rename_i c3
    cases h
    exact if_pos c3
  rename_i c3
  refine Eq.trans (if_neg c3) ?_
  split at h
  · rename_i c4
    cases h
    exact if_pos c4
  rename_i c4
  refine Eq.trans (if_neg c4) ?_
  split at h
  · cases h
  rename_i c5
  cases h
  exact if_neg c5
/-! ### two, three at once -/
theorem evEs2 {σm : Env} {μ : Mem} {A B : E} {as : List MV} {μ1 : Mem} (h : evEs T [A, B] σm μ = .ok as μ1) : ∃ x y, as = [x, y] := by
  have hl := evEs_len h
  match as, hl with
  | [x, y], _ => exact ⟨x, y, rfl⟩
theorem evEs3 {σm : Env} {μ : Mem} {A B C : E} {as : List MV} {μ1 : Mem} (h : evEs T [A, B, C] σm μ = .ok as μ1) : ∃ x y z, as = [x, y, z] := by
  have hl := evEs_len h
  match as, hl with
  | [x, y, z], _ => exact ⟨x, y, z, rfl⟩
theorem sp_par2 {i j : Nat} {x y : Str} {a b : PySem.Expr} {A B : E} {px py pt : Pos} {kt k2 pt2} (hc : X.calm = true) (hN : X.N.Nodup) (hi : X.N[i]? = some x) (hj : X.N[j]? = some y) (hij : i ≠ j) (h1 : md.ex i = false) (h2 : md.ex j = false)
    (hx : X.env.scope.names.lookup x = some .local) (hy : X.env.scope.names.lookup y = some .local) (ha : PA X [a, b] (tEs g T W md [A, B]))
    (hw : swappedStores [.Tuple [.Name x px, .Name y py] kt pt] (.Tuple [a, b] k2 pt2) X.env = pure (some [x, y])) :
    PS X (.Assign [.Tuple [.Name x px, .Name y py] kt pt] (.Tuple [a, b] k2 pt2) pos) (tR g W md (evS T (.asg (.tup [.var i, .var j]) (.tup [A, B])))) := by
  refine ⟨fun pins s σ H D I h => (ps_par hc hN hi hj hij hx hy ha hw).run pins s σ H D I ?_⟩
  obtain ⟨φ, G, μ, σm, sb, r, st, h⟩ := h
  simp only [evS, evE] at h
  refine ⟨φ, G, μ, σm, sb, r, st, ?_⟩
  cases e0 : evEs T [A, B] σm μ with
  | no => rw [e0] at h; exact h
  | exc x' μ1 => rw [e0] at h; exact fun φ1 G1 H1 e1 r1 => h φ1 G1 H1 σ e1.weak r1 (st.ext e1)
  | ok xs μ1 =>
    obtain ⟨u, v, rfl⟩ := evEs2 e0
    rw [e0] at h
    have hz : newT [u, v] μ1 = .ok (.tup [u, v]) μ1 := if_pos (by show 2 ≤ sizeLine; decide)
    simp only [R.bind, hz, R.stm, asgT, asgT.go, List.length_cons, List.length_nil, if_true, R.calm] at h
    intro φ1 G1 H1 e1 r1 ws hws
    obtain ⟨w1, w2, rfl, q1, q2⟩ := hws.two
    exact ⟨w1, w2, rfl, h φ1 G1 H1 _ e1.weak r1 (((st.ext e1).set q1 h1).set q2 h2)⟩
theorem RVs.three {φ : List Addr} {G : Hp} {x y z : MV} {vs : List V} (h : RVs g φ G [x, y, z] vs) : ∃ u v w, vs = [u, v, w] ∧ RV g φ G x u ∧ RV g φ G y v ∧ RV g φ G z w := by
  simp only [RVs] at h
  obtain ⟨v, r, rfl, h1, w, r, rfl, h2, u, r, rfl, h3, rfl⟩ := h
  exact ⟨v, w, u, rfl, h1, h2, h3⟩
theorem sp_par3 {i j l : Nat} {x y z : Str} {a b c : PySem.Expr} {A B C : E} {px py pz pt : Pos} {kt k2 pt2} (hc : X.calm = true) (hN : X.N.Nodup) (hi : X.N[i]? = some x) (hj : X.N[j]? = some y) (hl : X.N[l]? = some z) (hij : i ≠ j) (hil : i ≠ l) (hjl : j ≠ l) (h1 : md.ex i = false) (h2 : md.ex j = false) (h3 : md.ex l = false)
    (hx : X.env.scope.names.lookup x = some .local) (hy : X.env.scope.names.lookup y = some .local) (hz : X.env.scope.names.lookup z = some .local) (ha : PA X [a, b, c] (tEs g T W md [A, B, C]))
    (hw : swappedStores [.Tuple [.Name x px, .Name y py, .Name z pz] kt pt] (.Tuple [a, b, c] k2 pt2) X.env = pure (some [x, y, z])) :
    PS X (.Assign [.Tuple [.Name x px, .Name y py, .Name z pz] kt pt] (.Tuple [a, b, c] k2 pt2) pos) (tR g W md (evS T (.asg (.tup [.var i, .var j, .var l]) (.tup [A, B, C])))) := by
  refine ⟨fun pins s σ H D I h => (ps_par3 hc hN hi hj hl hij hil hjl hx hy hz ha hw).run pins s σ H D I ?_⟩
  obtain ⟨φ, G, μ, σm, sb, r, st, h⟩ := h
  simp only [evS, evE] at h
  refine ⟨φ, G, μ, σm, sb, r, st, ?_⟩
  cases e0 : evEs T [A, B, C] σm μ with
  | no => rw [e0] at h; exact h
  | exc x' μ1 => rw [e0] at h; exact fun φ1 G1 H1 e1 r1 => h φ1 G1 H1 σ e1.weak r1 (st.ext e1)
  | ok xs μ1 =>
    obtain ⟨u, v, w, rfl⟩ := evEs3 e0
    rw [e0] at h
    have hz : newT [u, v, w] μ1 = .ok (.tup [u, v, w]) μ1 := if_pos (by show 3 ≤ sizeLine; decide)
    simp only [R.bind, hz, R.stm, asgT, asgT.go, List.length_cons, List.length_nil, if_true, R.calm] at h
    intro φ1 G1 H1 e1 r1 ws hws
    obtain ⟨w1, w2, w3, rfl, q1, q2, q3⟩ := hws.three
    exact ⟨w1, w2, w3, rfl, h φ1 G1 H1 _ e1.weak r1 ((((st.ext e1).set q1 h1).set q2 h2).set q3 h3)⟩
/-! ### comprehensions -/
section
variable {elt tg iter tg1 iter1 : PySem.Expr} {ifs ifs1 : List PySem.Expr} {scope : Scope} {own : List (Str × Nat)} {vs1 : List Nat} {TG IT CD TG1 IT1 CD1 : E} {i : Nat} {y : Str} {py spos : Pos}
theorem se_comp (hc : X.calm = true) (hN : X.N.Nodup) (hmd : ∀ j a c d, md ≠ .exc j a c d) (hi : PI X tg iter (tI g T W md IT)) (ok : BlkOk X.N X.env.scope scope own) (hsl : ∀ i ∈ tgSlots TG, i ∈ own.map (·.2))
    (hg : ∀ (s : Shared) (H : Hp) (C : Addr) (cl : List (Str × Addr)) (fp : List Addr), PG (X.blk s H scope (compEnvC scope cl C X.env) fp) tg (gB g md.blk TG)) (ht : ∀ (s : Shared) (H : Hp) (C : Addr) (cl : List (Str × Addr)) (fp : List Addr), PTs (X.blk s H scope (compEnvC scope cl C X.env) fp) ifs (tT g T W0 md.blk CD))
    (he : ∀ (s : Shared) (H : Hp) (C : Addr) (cl : List (Str × Addr)) (fp : List Addr), PE (X.blk s H scope (compEnvC scope cl C X.env) fp) elt (tE g T W0 md.blk A)) (hs : notSet iter = true) :
    PE X (.ListComp elt [⟨tg, iter, ifs, 0⟩] scope pos) (tE g T W md (.comp A TG IT CD (own.map (·.2)))) :=
  ⟨fun pins s σ H Q I h => (pe_lc hc hN hi ok hg ht he (fold_of hs)).run pins s σ H Q I (comp_read hmd hsl h)⟩
theorem sp_setc (hc : X.calm = true) (hN : X.N.Nodup) (hmd : ∀ j a c d, md ≠ .exc j a c d) (hy : X.N[i]? = some y) (hyl : X.env.scope.names.lookup y = some .local) (hyi : md.ex i = false) (hsw : swapsWith (.ListComp elt [⟨tg, iter, ifs, 0⟩] scope pos) (some (.Name y py)) spos.line X.env = pure true)
    (hi : PI X tg iter (tI g T W md IT)) (ok : BlkOk X.N X.env.scope scope own) (hsl : ∀ i ∈ tgSlots TG, i ∈ own.map (·.2))
    (hg : ∀ (s : Shared) (H : Hp) (C : Addr) (cl : List (Str × Addr)) (fp : List Addr), PG (X.blk s H scope (compEnvC scope cl C X.env) fp) tg (gB g md.blk TG)) (ht : ∀ (s : Shared) (H : Hp) (C : Addr) (cl : List (Str × Addr)) (fp : List Addr), PTs (X.blk s H scope (compEnvC scope cl C X.env) fp) ifs (tT g T W0 md.blk CD))
    (he : ∀ (s : Shared) (H : Hp) (C : Addr) (cl : List (Str × Addr)) (fp : List Addr), PE (X.blk s H scope (compEnvC scope cl C X.env) fp) elt (tE g T W0 md.blk A)) (hs : notSet iter = true) :
    PS X (.Assign [.Name y py] (.ListComp elt [⟨tg, iter, ifs, 0⟩] scope pos) spos) (tR g W md (evS T (.asg (.var i) (.comp A TG IT CD (own.map (·.2)))))) := by
  refine ⟨fun pins s σ H D I h => (ps_setLc hc hN hy hyl hsw hi ok hg ht he (fold_of hs)).run pins s σ H D I (comp_read hmd hsl ?_)⟩
  obtain ⟨φ, G, μ, σm, sb, r, st, h⟩ := h
  simp only [evS, asgT] at h
  exact ⟨φ, G, μ, σm, sb, r, st, (h.stm st).imp fun v μ1 φ1 G1 H1 e1 r1 k w hw => k φ1 G1 H1 _ (Ext.refl e1.sub) r1 ((st.ext e1).set hw hyi)⟩
theorem se_comp2 (hc : X.calm = true) (hN : X.N.Nodup) (hmd : ∀ j a c d, md ≠ .exc j a c d) (hi : PI X tg iter (tI g T W md IT)) (ok : BlkOk X.N X.env.scope scope own) (hv : ∀ i ∈ vs1, i ∈ own.map (·.2)) (hsl : ∀ i ∈ tgSlots TG, i ∈ own.map (·.2)) (hsl1 : ∀ i ∈ tgSlots TG1, i ∈ vs1)
    (hg : ∀ (s : Shared) (H : Hp) (C : Addr) (cl : List (Str × Addr)) (fp : List Addr), PG (X.blk s H scope (compEnvC scope cl C X.env) fp) tg (gB g md.blk TG)) (ht : ∀ (s : Shared) (H : Hp) (C : Addr) (cl : List (Str × Addr)) (fp : List Addr), PTs (X.blk s H scope (compEnvC scope cl C X.env) fp) ifs (tT g T W0 md.blk CD))
    (hi1 : ∀ (s : Shared) (H : Hp) (C : Addr) (cl : List (Str × Addr)) (fp : List Addr), PI (X.blk s H scope (compEnvC scope cl C X.env) fp) tg1 iter1 (tI g T W0 md.blk IT1))
    (hg1 : ∀ (s : Shared) (H : Hp) (C : Addr) (cl : List (Str × Addr)) (fp : List Addr), PG (X.blk s H scope (compEnvC scope cl C X.env) fp) tg1 (gB g md.blk TG1)) (ht1 : ∀ (s : Shared) (H : Hp) (C : Addr) (cl : List (Str × Addr)) (fp : List Addr), PTs (X.blk s H scope (compEnvC scope cl C X.env) fp) ifs1 (tT g T W0 md.blk CD1))
    (he : ∀ (s : Shared) (H : Hp) (C : Addr) (cl : List (Str × Addr)) (fp : List Addr), PE (X.blk s H scope (compEnvC scope cl C X.env) fp) elt (tE g T W0 md.blk A)) (hs : notSet iter = true) (hs1 : notSet iter1 = true) :
    PE X (.ListComp elt [⟨tg, iter, ifs, 0⟩, ⟨tg1, iter1, ifs1, 0⟩] scope pos) (tE g T W md (.comp2 A TG IT CD TG1 IT1 CD1 (own.map (·.2)) vs1)) :=
  ⟨fun pins s σ H Q I h => (pe_lc2 hc hN hi ok hv hg ht hi1 hg1 ht1 he (fold_of hs) (fun env x => fold_of hs1 x)).run pins s σ H Q I (comp2_read hmd hsl hsl1 h)⟩
theorem sp_setc2 (hc : X.calm = true) (hN : X.N.Nodup) (hmd : ∀ j a c d, md ≠ .exc j a c d) (hy : X.N[i]? = some y) (hyl : X.env.scope.names.lookup y = some .local) (hyi : md.ex i = false) (hsw : swapsWith (.ListComp elt [⟨tg, iter, ifs, 0⟩, ⟨tg1, iter1, ifs1, 0⟩] scope pos) (some (.Name y py)) spos.line X.env = pure true)
    (hi : PI X tg iter (tI g T W md IT)) (ok : BlkOk X.N X.env.scope scope own) (hv : ∀ i ∈ vs1, i ∈ own.map (·.2)) (hsl : ∀ i ∈ tgSlots TG, i ∈ own.map (·.2)) (hsl1 : ∀ i ∈ tgSlots TG1, i ∈ vs1)
    (hg : ∀ (s : Shared) (H : Hp) (C : Addr) (cl : List (Str × Addr)) (fp : List Addr), PG (X.blk s H scope (compEnvC scope cl C X.env) fp) tg (gB g md.blk TG)) (ht : ∀ (s : Shared) (H : Hp) (C : Addr) (cl : List (Str × Addr)) (fp : List Addr), PTs (X.blk s H scope (compEnvC scope cl C X.env) fp) ifs (tT g T W0 md.blk CD))
    (hi1 : ∀ (s : Shared) (H : Hp) (C : Addr) (cl : List (Str × Addr)) (fp : List Addr), PI (X.blk s H scope (compEnvC scope cl C X.env) fp) tg1 iter1 (tI g T W0 md.blk IT1))
    (hg1 : ∀ (s : Shared) (H : Hp) (C : Addr) (cl : List (Str × Addr)) (fp : List Addr), PG (X.blk s H scope (compEnvC scope cl C X.env) fp) tg1 (gB g md.blk TG1)) (ht1 : ∀ (s : Shared) (H : Hp) (C : Addr) (cl : List (Str × Addr)) (fp : List Addr), PTs (X.blk s H scope (compEnvC scope cl C X.env) fp) ifs1 (tT g T W0 md.blk CD1))
    (he : ∀ (s : Shared) (H : Hp) (C : Addr) (cl : List (Str × Addr)) (fp : List Addr), PE (X.blk s H scope (compEnvC scope cl C X.env) fp) elt (tE g T W0 md.blk A)) (hs : notSet iter = true) (hs1 : notSet iter1 = true) :
    PS X (.Assign [.Name y py] (.ListComp elt [⟨tg, iter, ifs, 0⟩, ⟨tg1, iter1, ifs1, 0⟩] scope pos) spos) (tR g W md (evS T (.asg (.var i) (.comp2 A TG IT CD TG1 IT1 CD1 (own.map (·.2)) vs1)))) := by
  refine ⟨fun pins s σ H D I h => (ps_setLc2 hc hN hy hyl hsw hi ok hv hg ht hi1 hg1 ht1 he (fold_of hs) (fun env x => fold_of hs1 x)).run pins s σ H D I (comp2_read hmd hsl hsl1 ?_)⟩
  obtain ⟨φ, G, μ, σm, sb, r, st, h⟩ := h
  simp only [evS, asgT] at h
  exact ⟨φ, G, μ, σm, sb, r, st, (h.stm st).imp fun v μ1 φ1 G1 H1 e1 r1 k w hw => k φ1 G1 H1 _ (Ext.refl e1.sub) r1 ((st.ext e1).set hw hyi)⟩
end
/-- does the comprehension's store come within its block -/
def swpB (sc scope : Scope) (y : Str) (py pos : Pos) : Bool := sc.names.lookup y == some .local && py.line == pos.line && !(scope.names.any fun (n, k) => n == y && (k == .local || k == .cell))
theorem swpB_ok {elt : PySem.Expr} {gs : List Comprehension} {scope : Scope} {y : Str} {py : Pos} {l : Nat} {env : PySem.Env} (hk : env.blockKind = .function) : swapsWith (.ListComp elt gs scope pos) (some (.Name y py)) l env = pure (swpB env.scope scope y py pos) := by
  unfold swapsWith swpB
  simp only [hk, Expr.pos, Env.kindOf]
  rfl
end
end Mch

/-! ## try: the machine's reading -/
namespace Mch
open PySem PySem.Spec PyProof.Rows L2
section
variable {X : Cx} {g : Glob} {T : Tab} {W : WX} {pos : Pos}
/-- the mode within a suite -/
def sMd (n : Option Nat) (a : Addr) (cls : Value) (d : Option Addr) : Md := match n with
  | none => .no
  | some i => .exc i a cls d
/-- a clause of the machine -/
def mCl (g : Glob) (T : Tab) (C : Addr) (n : Option Nat) (Hb : List S) : Clause := ⟨.ref C, n, fun a cls d => tR g W0 (sMd n a cls d) (evB T Hb)⟩
theorem calm_noX {r : RS} {D : Ends} {φ : List Addr} {G H : Hp} {md : Md} (h : GoodS g W md φ G H D r.calm) : ∀ W', GoodS g W' md φ G H D r := by
  intro W'
  cases r with
  | ok f μ => cases f <;> exact h
  | exc x σ μ => exact h.elim
  | no => exact h.elim
theorem suite_ok {n : Option Nat} {Hb : List S} {x : MX} {σ1 : Env} {σ : L2.St} {μ : Mem} {φ : List Addr} {G H : Hp} {D : Ends} {cls : Value} {d : Option Addr} (sb : Sub G H) (r : Rel g φ G μ) (st : RSt g φ G H .no σ1 σ) (hx : RX g φ G H x cls d)
    (h : GoodS g W .no φ G H D (suite n (evB T Hb) x σ1 μ).calm) (a : Addr) : tR g W0 (sMd n a cls d) (evB T Hb) (outOf n D) (intoS n a σ) H := by
  cases n with
  | none => exact ⟨φ, G, μ, σ1, sb, r, st, calm_noX h W0⟩
  | some i =>
    simp only [suite] at h
    split at h
    · exact h.elim
    · rename_i hi
      have hi' : i < σ1.length := by omega
      have hi2 : i < σ.length := by rw [← st.env.1]; exact hi'
      refine ⟨φ, G, μ, σ1.set i (some (.exn x.c x.vs)), sb, r, ⟨⟨by simp [intoS, st.env.1], fun j v e1 e2 => ?_⟩, x.c, x.vs, ?_, ?_, hx⟩, ?_⟩
      · have ne : j ≠ i := by simpa [sMd, Md.ex] using e2
        rw [List.getElem?_set_ne (Ne.symm ne)] at e1
        show ∃ w, (σ.set i (some (.ref a)))[j]? = _ ∧ _
        rw [List.getElem?_set_ne (Ne.symm ne)]
        exact st.env.2 j v e1 rfl
      · show (σ.set i (some (.ref a)))[i]? = _
        rw [List.getElem?_set_self hi2]
      · rw [List.getElem?_set_self hi']
      · have back : ∀ {φ1 : List Addr} {G1 H1 : Hp} {σ2 : Env} {σ' : L2.St}, RSt g φ1 G1 H1 (sMd (some i) a cls d) σ2 σ' → RSt g φ1 G1 H1 .no (σ2.set i none) (σ'.set i none) := fun {φ1 G1 H1 σ2 σ'} s => by
          refine ⟨⟨by simp [s.env.1], fun j v e1 _ => ?_⟩, trivial⟩
          rw [List.getElem?_set] at e1
          split at e1
          · split at e1 <;> cases e1
          · rename_i ne
            rw [List.getElem?_set_ne ne]
            exact s.env.2 j v e1 (by simp [sMd, Md.ex]; exact fun z => ne z.symm)
        revert h
        cases evB T Hb (σ1.set i (some (.exn x.c x.vs))) μ with
        | no => intro h; exact h.elim
        | exc y σ2 μ2 => intro h; exact h.elim
        | ok f μ2 => cases f with
          | next σ2 => exact fun h φ1 G1 H1 σ' e r s => h φ1 G1 H1 _ e r (back s)
          | brk σ2 => exact fun h φ1 G1 H1 σ' e r s => h φ1 G1 H1 _ e r (back s)
          | cnt σ2 => exact fun h φ1 G1 H1 σ' e r s => h φ1 G1 H1 _ e r (back s)
          | ret v => exact fun h φ1 G1 H1 w e r s => h φ1 G1 H1 w e r s
/-- an exception against a clause -/
theorem isX_ok {x : MX} {c : Nat} {C : Addr} {Cl : ClsM} {b : Bool} {φ : List Addr} {G H : Hp} {cls : Value} {d : Option Addr} (hE : ExcG g) (hK : g.K = X.K) (hT : T.P = g.P) (hc : g.cA c = some C) (hl : g.P.clss[c]? = some Cl) (he : Cl.exc = true) (hx : RX g φ G H x cls d) (hb : isX T.P x c = some b) :
    PySem.W.exmOne X.K cls (.ref C) = some b := by
  obtain ⟨C', Cl', h1, h2, rfl, _⟩ := hx
  unfold isX at hb
  rw [hT, h2] at hb
  simp only at hb
  split at hb
  · rename_i e
    cases hb
    rw [← hK]
    exact hE.exm x.c c C' C Cl' Cl h1 hc h2 hl e he
  · cases hb
structure ClsAt (X : Cx) (g : Glob) (x : Str) (c : Nat) (C : Addr) : Prop where
  names : Names X x (.ref C)
  ca : g.cA c = some C
  cl : ∃ Cl, g.P.clss[c]? = some Cl ∧ Cl.exc = true
theorem sp_try1 {body : List Stmt} {Bb Hb : List S} {x : Str} {n : Option Str} {ni : Option Nat} {c : Nat} {C : Addr} {b₀ : Stmt} {su : List Stmt} {np pos' : Pos} (hst : X.stack = X.env :: X.outer) (hf : X.env.frame = some X.env.locals) (hN : X.N.Nodup) (tk : Takes X W) (hE : ExcG g) (hK : g.K = X.K) (hT : T.P = g.P)
    (hc : ClsAt X g x c C) (hn : NameAt X n ni)
    (hb : ∀ (W : WX) (pn : List (Addr × Obj)) (xe : Value → Shared → Prop), Takes (X.tr pn xe) W → PassesOwn (model X.prog X.w) X.A X.env xe → PSs (X.tr pn xe) body (tR g W .no (evB T Bb)))
    (hsu : ∀ (a : Addr) (oe : Obj) (cls : Value) (d : Option Addr) (pn : List (Addr × Obj)), Zc cls d oe → (∃ vs, oe.data = .fields vs) → PSs (X.suite a ((a, oe) :: pn)) (b₀ :: su) (tR g W0 (sMd ni a cls d) (evB T Hb))) :
    PS X (.Try body [.ExceptHandler (some (.Name x np)) n (b₀ :: su) pos'] [] [] pos) (tR g W .no (evS T (.try1 Bb c ni Hb))) := by
  refine ⟨fun pins s σ H D I h => (ps_clauses (tb := fun W => tR g W .no (evB T Bb)) (ls := [mCl g T C ni Hb]) hst hf hN tk hb (.cons (l := mCl g T C ni Hb) hc.names hn hsu .nil)).run pins s σ H D I ?_⟩
  obtain ⟨φ, G, μ, σm, sb, r, st, h⟩ := h
  refine ⟨φ, G, μ, σm, sb, r, st, ?_⟩
  simp only [evS] at h
  revert h
  cases evB T Bb σm μ with
  | ok f μ1 => intro h; cases f <;> exact h
  | no => intro h; exact h.elim
  | exc y σ1 μ1 =>
    intro h φ1 G1 H1 σ' e1 r1 s1 cls dd hx
    obtain ⟨Cl, hl, he⟩ := hc.cl
    simp only at h
    split at h
    · rename_i hb1
      refine ⟨true, isX_ok hE hK hT hc.ca hl he hx hb1, fun _ a _ => suite_ok e1.sub r1 s1 hx (GoodS.ext h e1) a, fun z => by cases z⟩
    · rename_i hb1
      exact ⟨false, isX_ok hE hK hT hc.ca hl he hx hb1, (fun z => by cases z), fun _ => h φ1 G1 H1 σ' e1 r1 s1 cls dd hx⟩
    · exact h.elim
theorem sp_try2 {body : List Stmt} {Bb Hb Hb2 : List S} {x x2 : Str} {n n2 : Option Str} {ni ni2 : Option Nat} {c c2 : Nat} {C C2 : Addr} {b₀ b₂ : Stmt} {su su2 : List Stmt} {np np2 pos' pos2 : Pos} (hst : X.stack = X.env :: X.outer) (hf : X.env.frame = some X.env.locals) (hN : X.N.Nodup) (tk : Takes X W) (hE : ExcG g) (hK : g.K = X.K) (hT : T.P = g.P)
    (hc : ClsAt X g x c C) (hn : NameAt X n ni) (hc2 : ClsAt X g x2 c2 C2) (hn2 : NameAt X n2 ni2)
    (hb : ∀ (W : WX) (pn : List (Addr × Obj)) (xe : Value → Shared → Prop), Takes (X.tr pn xe) W → PassesOwn (model X.prog X.w) X.A X.env xe → PSs (X.tr pn xe) body (tR g W .no (evB T Bb)))
    (hsu : ∀ (a : Addr) (oe : Obj) (cls : Value) (d : Option Addr) (pn : List (Addr × Obj)), Zc cls d oe → (∃ vs, oe.data = .fields vs) → PSs (X.suite a ((a, oe) :: pn)) (b₀ :: su) (tR g W0 (sMd ni a cls d) (evB T Hb)))
    (hsu2 : ∀ (a : Addr) (oe : Obj) (cls : Value) (d : Option Addr) (pn : List (Addr × Obj)), Zc cls d oe → (∃ vs, oe.data = .fields vs) → PSs (X.suite a ((a, oe) :: pn)) (b₂ :: su2) (tR g W0 (sMd ni2 a cls d) (evB T Hb2))) :
    PS X (.Try body [.ExceptHandler (some (.Name x np)) n (b₀ :: su) pos', .ExceptHandler (some (.Name x2 np2)) n2 (b₂ :: su2) pos2] [] [] pos) (tR g W .no (evS T (.try2 Bb c ni Hb c2 ni2 Hb2))) := by
  refine ⟨fun pins s σ H D I h => (ps_clauses (tb := fun W => tR g W .no (evB T Bb)) (ls := [mCl g T C ni Hb, mCl g T C2 ni2 Hb2]) hst hf hN tk hb (.cons (l := mCl g T C ni Hb) hc.names hn hsu (.cons (l := mCl g T C2 ni2 Hb2) hc2.names hn2 hsu2 .nil))).run pins s σ H D I ?_⟩
  obtain ⟨φ, G, μ, σm, sb, r, st, h⟩ := h
  refine ⟨φ, G, μ, σm, sb, r, st, ?_⟩
  simp only [evS] at h
  revert h
  cases evB T Bb σm μ with
  | ok f μ1 => intro h; cases f <;> exact h
  | no => intro h; exact h.elim
  | exc y σ1 μ1 =>
    intro h φ1 G1 H1 σ' e1 r1 s1 cls dd hx
    obtain ⟨Cl, hl, he⟩ := hc.cl
    obtain ⟨Cl2, hl2, he2⟩ := hc2.cl
    simp only at h
    split at h
    · rename_i hb1
      refine ⟨true, isX_ok hE hK hT hc.ca hl he hx hb1, fun _ a _ => suite_ok e1.sub r1 s1 hx (GoodS.ext h e1) a, fun z => by cases z⟩
    · rename_i hb1
      refine ⟨false, isX_ok hE hK hT hc.ca hl he hx hb1, (fun z => by cases z), fun _ => ?_⟩
      split at h
      · rename_i hb2
        refine ⟨true, isX_ok hE hK hT hc2.ca hl2 he2 hx hb2, fun _ a _ => suite_ok e1.sub r1 s1 hx (GoodS.ext h e1) a, fun z => by cases z⟩
      · rename_i hb2
        exact ⟨false, isX_ok hE hK hT hc2.ca hl2 he2 hx hb2, (fun z => by cases z), fun _ => h φ1 G1 H1 σ' e1 r1 s1 cls dd hx⟩
      · exact h.elim
    · exact h.elim
end
end Mch

/-! ## Objects made; the fields filled in __init__ -/
namespace Mch
open PySem PySem.Spec PyProof.Rows L2
/-- what the machine's making gives to an __init__ -/
def GoodI (g : Glob) (x C : Addr) (c : Nat) (fl : List Str) (φ : List Addr) (G H : Hp) (Q : VK) (Ex : XK) : R MV → Prop
  | .ok v μ => ∀ φ1 G1 H1 ws dx fs, Ext (some x) φ G H φ1 G1 H1 → Rel g φ1 G1 μ → v = .obj c ws → H1 x = some (.ins C dx fs) → G1 x = none → fs.map (·.1) = fl → RVs g φ1 G1 ws (fs.map (·.2)) → Q .non H1
  | .exc x' μ => ∀ φ1 G1 H1, Ext (some x) φ G H φ1 G1 H1 → Rel g φ1 G1 μ → ∀ cls dd, RX g φ1 G1 H1 x' cls dd → Ex cls dd H1
  | .no => False
/-- what an __init__ promises -/
def spI (g : Glob) (T : Tab) (c : Nat) : Sp := fun vs H Q Ex => ∃ x rest C dx φ G μ xs Cl i D, vs = V.ref x :: rest ∧ H x = some (.ins C dx []) ∧ G x = none ∧ Sub G H ∧ Rel g φ G μ ∧ RVs g φ G xs rest ∧ g.cA c = some C ∧
  T.P.clss[c]? = some Cl ∧ Cl.init = some i ∧ T.P.defs[i]? = some D ∧ xs.length + 1 = D.np ∧ GoodI g x C c Cl.fields φ G H Q Ex (T.make c xs μ)
/-- a class that is made -/
structure IniOk (g : Glob) (T : Tab) (P : Program) (w : World) (K : PySem.W.Frag) (mg : Str → Option Value) (base : Heap) (k : Nat) (c : Nat) : Prop where
  ex : ∃ (C a : Addr) (fd : FuncData) (ps : List Str) (dvs : List V) (Cl : ClsM) (i : Nat) (D : Def), g.cA c = some C ∧ T.P.clss[c]? = some Cl ∧ Cl.init = some i ∧ T.P.defs[i]? = some D ∧ Mk K C a ∧ (∀ φ G, RVs g φ G D.dfl dvs) ∧
    (∀ m, m ≤ dvs.length → ∃ ds, Vals (dvs.drop m) ds ∧ Binds K fd ps ds) ∧ FnOk P w K mg base (L2.CX P w) k a fd ps (spI g T c) ∧
    (∀ xs μ, T.make c xs μ ≠ .no → (xs ++ D.dfl.drop (D.dfl.length - (D.np - (xs.length + 1)))).length + 1 = D.np ∧ T.make c xs μ = T.make c (xs ++ D.dfl.drop (D.dfl.length - (D.np - (xs.length + 1)))) μ) ∧
    (∀ xs μ v μ1, T.make c xs μ = .ok v μ1 → ∃ ws, v = .obj c ws ∧ ws.length = Cl.fields.length)
section
variable {X : Cx} {pins : List (Addr × Obj)} {s : Shared} {σ : L2.St} {g : Glob} {T : Tab} {φ φ1 : List Addr} {G G1 H H1 : Hp} {μ : Mem} {W : WX} {Q : VK} {k : Nat}
/-- the making, as its caller sees it -/
theorem Ext.made {x dx C : Addr} (h : Ext (some x) φ G (L2.upd (L2.upd H dx (.own x)) x (.ins C dx [])) φ1 G1 H1) (nx : H x = none) (nd : H dx = none) (hn : G1 x = none) (o : HO) (ho : H1 x = some o) : Ext none φ G H φ1 (L2.upd G1 x o) H1 where
  pre := h.pre
  keep := fun a u e f => by
    have q := h.keep a u e f
    rw [upd_ne (fun z => by rw [z, hn] at q; cases q)]
    exact q
  sub := fun a u e => by
    by_cases z : a = x
    · subst z
      rw [upd_same] at e
      cases e
      exact ho
    · rw [upd_ne z] at e
      exact h.sub a u e
  frame := fun a u e n => by
    have z : a ≠ x := ne_of_none e nx
    have z2 : a ≠ dx := ne_of_none e nd
    obtain ⟨q1, o', q2, q3⟩ := h.frame a u (by rw [upd_ne z, upd_ne z2]; exact e) n
    rw [upd_ne z]
    exact ⟨q1, o', q2, fun _ => q3 (fun y => z (Option.some.inj y))⟩
theorem Ext.unmade {x dx C : Addr} (h : Ext (some x) φ G (L2.upd (L2.upd H dx (.own x)) x (.ins C dx [])) φ1 G1 H1) (nx : H x = none) (nd : H dx = none) : Ext none φ G H φ1 G1 H1 where
  pre := h.pre
  keep := h.keep
  sub := h.sub
  frame := fun a u e n => by
    have z : a ≠ x := ne_of_none e nx
    have z2 : a ≠ dx := ne_of_none e nd
    obtain ⟨q1, o', q2, q3⟩ := h.frame a u (by rw [upd_ne z, upd_ne z2]; exact e) n
    exact ⟨q1, o', q2, fun _ => q3 (fun y => z (Option.some.inj y))⟩
theorem mk_call {c : Nat} {xs : List MV} {vs : List V} {us : List Value} {C : Addr} (M : IniOk g T X.prog X.w X.K X.mg X.base k c) (hT : T.P = g.P) (hC : g.cA c = some C) (hr : Room (k + 1) X.A) (tk : Takes X W) (I : Inv X pins σ H s) (r : Rel g φ G μ) (sb : Sub G H) (rx : RVs g φ G xs vs) (ra : Vals vs us)
    (h : Good g W σ φ G H (T.make c xs μ) (kE g Q)) : wpAny (model X.prog X.w) X.A (call (.ref C) us) (EP X pins σ Q) X.xe s := by
  obtain ⟨C', a, fd, ps, dvs, Cl, i, D, h1, h2, h3, h4, h5, h6, h7, h8, h9, h10⟩ := M.ex
  rw [hC] at h1
  cases h1
  have h6l : D.dfl.length = dvs.length := (h6 [] fun _ => none).len
  obtain ⟨hnp, hfull⟩ := h9 _ _ (good_no h)
  obtain ⟨ds, hd, hb⟩ := h7 (min (D.dfl.length - (D.np - (xs.length + 1))) dvs.length) (Nat.min_le_right _ _)
  have em : dvs.drop (min (D.dfl.length - (D.np - (xs.length + 1))) dvs.length) = dvs.drop (D.dfl.length - (D.np - (xs.length + 1))) := by
    rw [Nat.min_eq_left]
    omega
  rw [em] at hd
  have nx : H (s.heap.objs.size + 1) = none := I.hok.fresh (Nat.le_succ _)
  have nd : H s.heap.objs.size = none := I.hok.fresh (Nat.le_refl _)
  have ne : s.heap.objs.size ≠ s.heap.objs.size + 1 := Nat.ne_of_lt (Nat.lt_succ_self _)
  have sb2 : Sub G (L2.upd (L2.upd H s.heap.objs.size (.own (s.heap.objs.size + 1))) (s.heap.objs.size + 1) (.ins C s.heap.objs.size [])) := fun b u e => by
    have := sb b u e
    rw [upd_ne (ne_of_none this nx), upd_ne (ne_of_none this nd)]
    exact this
  have hsp : spI g T c (.ref (s.heap.objs.size + 1) :: (vs ++ dvs.drop (D.dfl.length - (D.np - (xs.length + 1))))) (L2.upd (L2.upd H s.heap.objs.size (.own (s.heap.objs.size + 1))) (s.heap.objs.size + 1) (.ins C s.heap.objs.size []))
      (fun v H2 => v = .non ∧ Q (.ref (s.heap.objs.size + 1)) H2) (WE W σ) := by
    refine ⟨_, _, C, _, φ, G, μ, _, Cl, i, D, rfl, upd_same, sb.none nx, sb2, r, rx.append ((h6 φ G).drop _), hC, h2, h3, h4, hnp, ?_⟩
    rw [← hfull]
    revert h
    have h10 := h10 xs μ
    cases T.make c xs μ with
    | no => exact fun h => h
    | exc x' μ1 => exact fun h φ1 G1 H1 e1 r1 => h φ1 G1 H1 (e1.unmade nx nd) r1
    | ok v μ1 =>
      intro h φ1 G1 H1 ws dx fs e1 r1 hv hx hg hf hw
      subst hv
      refine ⟨rfl, h φ1 _ H1 (e1.made nx nd hg _ hx) (r1.grow (sub_new hg)) _ ?_⟩
      simp only [RV]
      exact ⟨_, C, dx, fs, Cl, rfl, hC, upd_same, by rw [← hT]; exact h2, hf, RVs.mono (List.prefix_refl _) (fun b o e _ => sub_new hg b o e) _ _ hw⟩
  have I2 := Inv.made (C := C) I
  have r2 : Vals (V.ref (s.heap.objs.size + 1) :: (vs ++ dvs.drop (D.dfl.length - (D.np - (xs.length + 1))))) (Value.ref (s.heap.objs.size + 1) :: (us ++ ds)) := .cons rfl (ra.append hd)
  have hl : (Value.ref (s.heap.objs.size + 1) :: us ++ ds).length = ps.length := by
    have e := r2.length
    rw [h8.len _ _ _ _ hsp] at e
    exact e.symm
  have run := h8.run _ X.stack _ _ ⟨Value.ref (s.heap.objs.size + 1) :: us, []⟩ (Value.ref (s.heap.objs.size + 1) :: (us ++ ds)) _ _ (WE W σ) (hr.make C us []) (I2.env0.make C us []) (hb _ (Value.ref (s.heap.objs.size + 1) :: us) I2.kIn hl) r2 hsp
  refine wpAny_call (make_map (f := a) I.kIn h5.makes h5.init (beq_iff_eq.mp h5.fn) (codeAny_mono run fun r s' hq' => ?_))
  match r, hq' with
  | .error e, hq' => exact passAt tk σ pins _ _ e s' I2 hq'
  | .ok (.ret u), hq' =>
    obtain ⟨v, H', I3, rv, ev, q3⟩ := I2.after hq'
    subst ev
    exact ⟨rv, ⟨V.ref (s.heap.objs.size + 1), H', I3, rfl, q3⟩⟩
  | .ok .next, hq' => exact False.elim hq'
  | .ok .brk, hq' => exact False.elim hq'
  | .ok .cont, hq' => exact False.elim hq'
end
section
variable {X : Cx} {g : Glob} {T : Tab} {W : WX} {md : Md} {a b c : PySem.Expr} {A B : E} {pos : Pos} {k : Nat}
/-- C(..) -/
theorem se_mk {x : Str} {p : Pos} {c : Nat} {C : Addr} {es : List PySem.Expr} {As : List E} (M : IniOk g T X.prog X.w X.K X.mg X.base k c) (hT : T.P = g.P) (hC : g.cA c = some C) (hr : Room (k + 1) X.A) (tk : Takes X W) (hg : Gl X x) (hm : X.mg x = some (.ref C)) (hdb : (x == ("__debug__" : Str)) = false)
    (hp : es.all plain = true) (hl : es.length = As.length) (ha : PA X es (tEs g T W md As)) : PE X (.Call (.Name x p) es [] pos) (tE g T W md (.mk c As)) := by
  have kp : PySem.W.keepIn X.K (.ref C) = true := by
    obtain ⟨C', a, fd, ps, dvs, Cl, i, D, h1, h2, h3, h4, h5, _⟩ := M.ex
    rw [hC] at h1
    cases h1
    exact h5.kp
  refine ⟨fun pins s σ H Q I h => ?_⟩
  obtain ⟨φ, G, μ, σm, sb, r, e, h⟩ := h
  simp only [evE] at h
  cases es with
  | nil =>
    have e0 : As = [] := List.length_eq_zero_iff.mp hl.symm
    subst e0
    simp only [evEs, R.bind] at h
    refine wpAny_Call_Name_kw (ld_glob I hg hm ?_ hdb)
    exact PySem.W.callWith_K0 I.kIn kp (mk_call (us := []) M hT hC hr tk I r sb rvs_nil .nil h)
  | cons e0 es =>
    rw [List.all_cons, Bool.and_eq_true] at hp
    refine wpAny_Call_Name_kw (ld_glob I hg hm ?_ hdb)
    refine PySem.W.callWith_K (h₀ := X.base) I.ok.mod.kin kp (thn (ha.run pos pins s σ H (fun ws H2 => ∃ φ G μ xs, Sub G H2 ∧ Rel g φ G μ ∧ RVs g φ G xs ws ∧ Good g W σ φ G H2 (T.make c xs μ) (kE g Q)) I ⟨φ, G, μ, σm, sb, r, e, h.bind.imp fun xs μ2 φ2 G2 H2 e2 r2 k ws hws => ⟨φ2, G2, μ2, xs, e2.sub, r2, hws, k⟩⟩) fun us s2 ⟨ws, H2, I2, rr, q2⟩ => ⟨I2.kIn, ?_⟩) (star_cons hp.1) (star_any hp.2)
    obtain ⟨φ2, G2, μ2, xs, sb2, r2, rxs, q2⟩ := q2
    exact mk_call M hT hC hr tk I2 r2 sb2 rxs rr q2
end
/-! ### self.f = e -/
theorem putF_new {f : Str} {v : V} : ∀ {fs : List (Str × V)}, f ∉ fs.map (·.1) → putF f v fs = fs ++ [(f, v)]
  | [], _ => rfl
  | (h, x) :: r, hn => by
    simp only [List.map_cons, List.mem_cons, not_or] at hn
    unfold putF
    rw [if_neg (fun z => hn.1 z.symm), putF_new hn.2]
    rfl
theorem ext_ini {x C dx : Addr} {fs fs' : List (Str × V)} {φ : List Addr} {G H : Hp} (sb : Sub G H) (hx : H x = some (.ins C dx fs)) (hn : G x = none) : Ext (some x) φ G H φ G (L2.upd H x (.ins C dx fs')) where
  pre := List.prefix_refl _
  keep := fun a o e _ => e
  sub := fun a o e => by
    rw [upd_ne (ne_of_none e hn)]
    exact sb a o e
  frame := fun a o e n => by
    by_cases z : a = x
    · subst z
      exact ⟨n, _, upd_same, fun y => absurd rfl y⟩
    · rw [upd_ne z]
      exact ⟨n, o, e, fun _ => rfl⟩
section
variable {X : Cx} {g : Glob} {T : Tab} {W : WX} {e : PySem.Expr} {A : E} {pos pos' : Pos}
theorem sp_setf {x : Addr} {n f : Str} {p : Pos} (hT : T.P = g.P) (hK : g.K = X.K) (hfld : ∀ d C Cl, g.cA d = some C → g.P.clss[d]? = some Cl → Cl.init.isSome = true → L2.Cls g.K C ∧ ∀ f ∈ Cl.fields, NoAttr g.K C f)
    (hfl : ∀ (c : Nat) (Cl : ClsM), g.P.clss[c]? = some Cl → Cl.init.isSome = true → Cl.fields.Nodup ∧ Cl.fields.length < 1000) (hini : ∀ (c : Nat) (Cl : ClsM), g.P.clss[c]? = some Cl → f ∈ Cl.fields → Cl.init.isSome = true)
    (hN : X.N[0]? = some n) (hv : Vis X.env.scope n) (hdb : (n == ("__debug__" : Str)) = false) (hcd : (n == ("__classdict__" : Str)) = false) (hnc : notComp e = true) (he : PE X e (tE g T W (.ini x) A)) :
    PS X (.Assign [.Attribute (.Name n p) f pos'] e pos) (tR g W (.ini x) (evS T (.setf f A))) := by
  refine ⟨fun pins s σ H D I h => (ps_fld (pe_var hN hv hdb hcd) he (swaps_no hnc)).run pins s σ H D I ?_⟩
  obtain ⟨φ, G, μ, σm, sb, r, st, h⟩ := h
  simp only [evS] at h
  refine ⟨φ, G, μ, σm, sb, r, st, (h.stm st).imp fun v μ1 φ1 G1 H1 e1 r1 k w hw => ?_⟩
  have st1 := st.ext e1
  obtain ⟨C, dx, fs, c, vs, Cl, s1, s2, s3, s4, s5, s6, s7, s8⟩ := st1.self
  refine ⟨.ref x, s1, x, C, dx, fs, rfl, s2, ?_⟩
  rw [s4] at k
  simp only at k
  rw [hT, s6] at k
  simp only at k
  split at k
  · rename_i hf
    have hmem : f ∈ Cl.fields := List.mem_of_getElem? hf
    have hi := hini c Cl s6 hmem
    obtain ⟨q1, q2⟩ := hfld c C Cl s5 s6 hi
    obtain ⟨q3, q4⟩ := hfl c Cl s6 hi
    rw [hK] at q1 q2
    have hlt := (List.getElem?_eq_some_iff.mp hf).1
    have hlen : fs.length = vs.length := by
      have := congrArg List.length s7
      rw [List.length_map, List.length_take] at this
      omega
    have hnew : f ∉ fs.map (·.1) := by
      rw [s7]
      intro hm
      obtain ⟨j, hj⟩ := List.mem_iff_getElem?.mp hm
      rw [List.getElem?_take] at hj
      split at hj
      · rename_i hjl
        have hj2 := (List.getElem?_eq_some_iff.mp hj).1
        have e3 := (List.getElem?_inj hj2 q3 (j := vs.length)).mp (by rw [hj, hf])
        omega
      · cases hj
    refine ⟨q1, q2 f hmem, by omega, ?_⟩
    rw [putF_new hnew]
    refine k φ1 G1 _ σ (ext_ini e1.sub s2 s3) r1 ⟨⟨by simp [st1.env.1], fun i u e2 e3 => ?_⟩, ?_⟩
    · have ne : (0 : Nat) ≠ i := by
        rintro rfl
        simp [Md.ex] at e3
      rw [List.getElem?_set_ne ne] at e2
      exact st1.env.2 i u e2 e3
    · refine ⟨C, dx, fs ++ [(f, w)], c, vs ++ [v], Cl, s1, upd_same, s3, ?_, s5, s6, ?_, ?_⟩
      · rw [List.getElem?_set_self (List.getElem?_eq_some_iff.mp s4).1]
      · rw [List.map_append, s7, List.length_append, List.map_cons, List.map_nil, List.length_cons, List.length_nil, List.take_add_one, hf]
        rfl
      · rw [List.map_append]
        exact s8.append (rvs_cons hw rvs_nil)
  · exact k.elim
end
end Mch

/-! ## Own exceptions with a field -/
namespace Mch
open PySem PySem.Spec PyProof.Rows L2
/-- the class of an exception that stores a field -/
def oexB (K : PySem.W.Frag) (C : Addr) : Bool := (match K.lookup C with
  | some ⟨.type t, _, .cls cd, sl⟩ => decide (t = "type") && (match cd.mro, sl.toList with
    | .ref C' :: bm, [_, _, _, _, some (.builtin n), _] => decide (C' = C) && (decide (n = "ValueError.__new__") && ((!cd.hasDel && cd.hasDict) && PySem.HandSPX.refsVE bm))
    | _, _ => false)
  | _ => false) && (decide (PySem.W.findIn K (.ref C) "__setattr__" = some (some (.builtin "object.__setattr__"))) && (decide (PySem.W.subIn K (.ref C) (.type "BaseException") = some true) && (decide (PySem.W.typeIn K (.ref C) = some (.type "type")) && PySem.W.keepIn K (.ref C))))
theorem oexB_ok {K : PySem.W.Frag} {C : Addr} (h : oexB K C = true) : OexC K C := by
  unfold oexB at h
  simp only [Bool.and_eq_true, decide_eq_true_eq] at h
  obtain ⟨h0, h1, h2, h3, h4⟩ := h
  refine ⟨?_, h1, h2, h3, h4⟩
  split at h0
  · rename_i t dd cd sl hl
    simp only [Bool.and_eq_true, decide_eq_true_eq] at h0
    obtain ⟨rfl, h0⟩ := h0
    split at h0
    · rename_i C' bm k0 k1 k2 k3 n k5 hm hs
      simp only [Bool.and_eq_true, decide_eq_true_eq, Bool.not_eq_true'] at h0
      obtain ⟨rfl, rfl, ⟨hd, hdc⟩, hr⟩ := h0
      obtain ⟨nm, bs, mro, ns, qn, hdict, sn, sub, ab, col, del⟩ := cd
      simp only at hm hd hdc
      subst hm hd hdc
      refine ⟨nm, qn, ns, bs, bm, sn, sub, ab, col, dd, k0, k1, k2, k3, k5, ?_, hr⟩
      rw [hl]
      congr
      exact Array.toList_inj.mp hs
    · cases h0
  · cases h0
/-- what such an __init__ promises -/
def spX (K : PySem.W.Frag) (C : Addr) (f : Str) : Sp := fun vs H Q _ => ∃ a y, vs = [V.ref a, y] ∧ H a = some (exo a C none) ∧ OexC K C ∧ PySem.W.findIn K (.ref C) f = some none ∧ ∀ dx, H dx = none → dx ≠ a → Q .non (L2.upd (L2.upd H dx (exd dx [(f, y)])) a (exo a C (some dx)))
section
variable {X : Cx} {te : TE} {ta : TA} {e e0 : PySem.Expr} {es : List PySem.Expr} {p1 p2 pos : Pos} {B f sf r : Str} {Bc : Addr} {mc : Value}
/-- B.__init__(self, ..), B an own class over ValueError that has no __init__ -/
theorem pe_xinit (hg : Gl X B) (hm : X.mg B = some (.ref Bc)) (hdb : (B == ("__debug__" : Str)) = false) (cr : ClX.CRead X.K Bc mc) (hf : PySem.W.findCls X.K (.ref Bc) mc "__init__" = some (.val (.builtin "ValueError.__init__"))) (hline : (p2.endLine == pos.line) = true)
    (hp : plain e = true) (hps : es.all plain = true) (hl : (e :: es).length < 30) (ha : PA X (e :: es) ta) : PE X (.Call (.Attribute (.Name B p1) "__init__" p2) (e :: es) [] pos) (tVeI X.K ta) := by
  refine ⟨fun pins s σ H Q I h => ?_⟩
  refine PySem.W.methodCall_KW (ld_glob I hg hm ?_ hdb) (meth_form (o := .Name B p1) rfl hline (by rw [List.all_cons, hp, hps]; rfl) hl)
  refine PySem.W.method_cls I.kIn cr.ga (PySem.W.cls_value I.kIn cr.rd hf (by rfl) ?_)
  show wpAny _ _ (callWith pos (Value.builtin "ValueError.__init__") [] (backTo pos (starEach (e :: es) X.env)) []) _ _ _
  refine PyProof.Rows.callWith_method1 (thn (ha.run pos pins _ σ H _ (I.tok _) h) fun us s1 ⟨vs, H1, I1, r1, a, C, ws, ev, hl, T, ea, q⟩ => ?_) (star_cons hp) (star_any hps)
  subst ev
  match us, r1 with
  | u0 :: ur, .cons ra rw' =>
    obtain rfl : u0 = Value.ref a := ra
    have hlen : ur.length ≤ sizeLine := by
      have := Paired.length rw'
      rw [sizeLine_eq]
      omega
    exact oinit_ok T I1 ea hlen fun s' J => ⟨.non, H1, J, rfl, q⟩
end
def isVisB (sc : Scope) (N : List Str) : Bool := N.all fun x => decide (sc.names.lookup x = some .local) && (!(x == "__debug__") && !(x == "__classdict__"))
theorem isVisB_ok {sc : Scope} {x y : Str} (h : isVisB sc [x, y] = true) : (Vis sc x ∧ (x == ("__debug__" : Str)) = false ∧ (x == ("__classdict__" : Str)) = false) ∧ (Vis sc y ∧ (y == ("__debug__" : Str)) = false ∧ (y == ("__classdict__" : Str)) = false) := by
  unfold isVisB at h
  simp only [List.all_cons, List.all_nil, Bool.and_true, Bool.and_eq_true, decide_eq_true_eq, Bool.not_eq_true'] at h
  obtain ⟨⟨h1, h2, h3⟩, h4, h5, h6⟩ := h
  exact ⟨⟨.inl h1, h2, h3⟩, .inl h4, h5, h6⟩
/-- the second argument of B.__init__ -/
def argB (r : Str) : PySem.Expr → Bool
  | .Name x _ => decide (x = r)
  | .Constant (.str _) _ _ => true
  | _ => false
/-- the form of such an __init__: B.__init__(s, ..); s.f = r -/
def xinB (N : List Str) (f B : Str) : List Stmt → Bool
  | [.Expr (.Call (.Attribute (.Name b _) i p2) [.Name s1 _, e0] kw pos) _, .Assign [.Attribute (.Name s2 _) g _] (.Name r _) _] => (match N with
    | [s, q] => decide (b = B) && (decide (i = "__init__") && (kw.isEmpty && (decide (s1 = s) && (decide (s2 = s) && (decide (r = q) && (decide (g = f) && (argB q e0 && (p2.endLine == pos.line))))))))
    | _ => false)
  | _ => false
section
variable {P : Program} {w : World} {K : PySem.W.Frag} {mg : Str → Option Value} {base : Heap} {qual : Str} {sc : Scope} {fa : Addr} {cdv : Value} {A : Around} {outer : List PySem.Env} {s : Shared} {H : Hp} {E : XK} {N : List Str} {f B : Str} {Bc : Addr} {mc : Value}
/-- a def of this form keeps its promise -/
theorem xin_body {C a : Addr} {y : V} {Q : VK} {body : List Stmt} (hx : xinB N f B body = true) (hn : isVisB sc N = true) (hgl : sc.names.lookup B = some .globalImplicit) (hdb : (B == ("__debug__" : Str)) = false) (hm : mg B = some (.ref Bc)) (cr : ClX.CRead K Bc mc)
    (hf : PySem.W.findCls K (.ref Bc) mc "__init__" = some (.val (.builtin "ValueError.__init__"))) (hl : N.length = 2) (hT : OexC K C) (hno : PySem.W.findIn K (.ref C) f = some none)
    (ea : H a = some (exo a C none)) (q : ∀ dx, H dx = none → dx ≠ a → Q .non (L2.upd (L2.upd H dx (exd dx [(f, y)])) a (exo a C (some dx)))) :
    ∃ t, PSs (cxOf (L2.CX P w) P w K mg base N qual sc fa cdv A outer s H E) body t ∧ t { nx := fun _ H' => Q .non H', rt := Q } (L2.start N [.ref a, y]) H := by
  unfold xinB at hx
  split at hx
  · rename_i b pb i p2 s1 ps1 e0 kw pos pe s2 ps2 g pg r pr pa
    split at hx
    · rename_i s' q'
      simp only [Bool.and_eq_true, decide_eq_true_eq] at hx
      obtain ⟨rfl, rfl, hk, rfl, rfl, rfl, rfl, harg, hline⟩ := hx
      have e1 := List.isEmpty_iff.mp hk
      subst e1
      obtain ⟨v0, v1⟩ := isVisB_ok hn
      have hself : ∀ p, PE (cxOf (L2.CX P w) P w K mg base [s2, r] qual sc fa cdv A outer s H E) (.Name s2 p) (tVar 0) := fun p => pe_var rfl v0.1 v0.2.1 v0.2.2
      have hval : ∀ p, PE (cxOf (L2.CX P w) P w K mg base [s2, r] qual sc fa cdv A outer s H E) (.Name r p) (tVar 1) := fun p => pe_var rfl v1.1 v1.2.1 v1.2.2
      have ks : ∀ (te : TE) (z : V), PE (cxOf (L2.CX P w) P w K mg base [s2, r] qual sc fa cdv A outer s H E) e0 te → plain e0 = true → (∀ Q : VK, Q z H → te (L2.start [s2, r] [.ref a, y]) H Q) → ∃ t, PSs (cxOf (L2.CX P w) P w K mg base [s2, r] qual sc fa cdv A outer s H E) [.Expr (.Call (.Attribute (.Name b pb) "__init__" p2) [.Name s2 ps1, e0] [] pos) pe, .Assign [.Attribute (.Name s2 ps2) g pg] (.Name r pr) pa] t ∧ t { nx := fun _ H' => Q .non H', rt := Q } (L2.start [s2, r] [.ref a, y]) H := fun te z h0 hp0 hz => by
        refine ⟨_, pss_cons (ps_expr (pe_xinit (mc := mc) hgl hm hdb cr hf hline rfl (by rw [List.all_cons, hp0]; rfl) (by simp) (pa_cons (hself _) (pa_cons h0 pa_nil (star_cons hp0)) rfl)) rfl) (pss_cons (ps_ost (hself _) (hval _) rfl) pss_nil), ?_⟩
        refine ⟨.ref a, rfl, hz _ ⟨a, C, [z], rfl, by simp, hT, ea, ?_⟩⟩
        exact ⟨y, rfl, .ref a, rfl, a, C, rfl, hT, hno, .inl ⟨ea, q⟩⟩
      unfold argB at harg
      split at harg
      · rename_i x px
        have ex : x = r := by simpa using harg
        subst ex
        exact ks (tVar 1) y (hval _) rfl fun Q h => ⟨y, rfl, h⟩
      · rename_i z j px
        exact ks (tC (.str z)) (.str z) pe_str rfl fun Q h => h
      · cases harg
    · cases hx
  · cases hx
end
/-- raise C(e), C an own exception with a field -/
structure ExF (g : Glob) (P : Program) (w : World) (K : PySem.W.Frag) (mg : Str → Option Value) (base : Heap) (k : Nat) (ci : Nat) : Prop where
  ex : ∃ (C fI : Addr) (fd : FuncData) (ps : List Str) (f : Str) (Cl : ClsM), g.cA ci = some C ∧ g.P.clss[ci]? = some Cl ∧ Cl.exc = true ∧ Cl.fields = [f] ∧ OexC K C ∧ PySem.W.findIn K (.ref C) "__init__" = some (some (.ref fI)) ∧
    PySem.W.typeIn K (.ref fI) = some (.type "function") ∧ PySem.W.findIn K (.ref C) f = some none ∧ Binds K fd ps [] ∧ FnOk P w K mg base (L2.CX P w) (k + 1) fI fd ps (spX K C f)
theorem ext_fresh {ex : Option Addr} {φ : List Addr} {G H : Hp} {d : Addr} {o : HO} (sb : Sub G H) (hd : H d = none) : Ext ex φ G H φ G (L2.upd H d o) where
  pre := List.prefix_refl _
  keep := fun a o e _ => e
  sub := fun a o e => by
    rw [upd_ne (ne_of_none (sb a o e) hd)]
    exact sb a o e
  frame := fun a u e n => by
    rw [upd_ne (ne_of_none e hd)]
    exact ⟨n, u, e, fun _ => rfl⟩
theorem del_heap {H : Hp} {a d C : Addr} {f : Str} {y : V} (ha : H a = none) (hne : d ≠ a) : L2.upd (del (L2.upd (L2.upd (L2.upd H a (exo a C none)) d (exd d [(f, y)])) a (exo a C (some d))) a) d (.xd [(f, y)]) = L2.upd H d (.xd [(f, y)]) := by
  funext b
  by_cases h1 : b = d
  · subst h1
    rw [upd_same, upd_same]
  · rw [upd_ne h1, upd_ne h1]
    by_cases h2 : b = a
    · subst h2
      rw [del_same, ha]
    · rw [del_ne h2, upd_ne h2, upd_ne h1, upd_ne h2]
section
variable {X : Cx} {g : Glob} {T : Tab} {W : WX} {md : Md} {e : PySem.Expr} {A : E} {pos p pos' : Pos} {k : Nat}
theorem sp_raise1 {x : Str} {ci : Nat} {Ca : Addr} (hc : X.calm = true) (tk : Takes X W) (hE : ExF g X.prog X.w X.K X.mg X.base k ci) (hT : T.P = g.P) (hr : Room (k + 2) X.A) (hA : g.cA ci = some Ca) (hg : Gl X x) (hm : X.mg x = some (.ref Ca)) (hdb : (x == ("__debug__" : Str)) = false)
    (hp : plain e = true) (he : PE X e (tE g T W md A)) : PS X (.Raise (some (.Call (.Name x p) [e] [] pos')) none pos) (tR g W md (evS T (.raise ci [A]))) := by
  obtain ⟨C, fI, fd, ps, f, Cl, h1, h2, h3, h4, h5, h6, h7, h8, h9, h10⟩ := hE.ex
  rw [hA] at h1
  cases h1
  have hx : Passes (L2.CX X.prog X.w) X (fun _ _ _ => False) := fun pins σ H s u s' I c => by
    obtain ⟨_, _, _, _, _, _, _, _, _, _, _, _, z⟩ := c
    exact z.elim
  refine ⟨fun pins s σ H D I h => (ps_raise hc tk (pmk_oex h5 h6 h7 h10 hr h9 .nil hx hg hm (sa_cons hp he sa_nil) hdb (star_cons hp) (star_any rfl))).run pins s σ H D I ?_⟩
  obtain ⟨φ, G, μ, σm, sb, r, st, h⟩ := h
  simp only [evS] at h
  refine ⟨φ, G, μ, σm, sb, r, st, (h.stm st).imp2 fun xs μ1 φ1 G1 H1 e0 e1 r1 kk vs hvs => ?_⟩
  have hl1 : xs.length = 1 := evEs_len e0
  match xs, hl1, hvs, kk with
  | [v], _, hvs, kk =>
    obtain ⟨y, rfl, hv⟩ := hvs.one
    refine ⟨by simp, fun a ha => ?_⟩
    have hmk : mkX T.P ci [v] = some ⟨ci, [v]⟩ := by
      unfold mkX
      rw [hT, h2]
      simp only [h4]
    rw [hmk] at kk
    refine ⟨a, y, rfl, upd_same, h5, h8, fun dx hdx hne => ⟨rfl, dx, [(f, y)], upd_same, ?_, ?_, ?_⟩⟩
    · rw [upd_ne hne, upd_same]
    · rw [upd_ne hne] at hdx
      exact hdx
    · have hd1 : H1 dx = none := by
        rw [upd_ne hne] at hdx
        exact hdx
      rw [del_heap ha hne]
      have e2 : Ext none φ1 G1 H1 φ1 G1 (L2.upd H1 dx (.xd [(f, y)])) := ext_fresh e1.sub hd1
      exact kk φ1 G1 _ σ e2.weak r1 ((st.ext e1).ext e2) _ _ ⟨Ca, Cl, hA, h2, rfl, .inr ⟨dx, _, rfl, upd_same, e1.sub.none hd1, by rw [h4]; rfl, rvs_cons hv rvs_nil⟩⟩
end
end Mch

/-! ## An exception that leaves a comprehension -/
namespace Mch
open PySem PySem.Spec PyProof.Rows L2
section
variable {M : Model} {A : Around} {base : Heap} {Z : Obj → Prop} {env : PySem.Env} {outer : List PySem.Env} {e L C : Addr} {s : Shared} {E : Value → Shared → Prop}
/-- held by a place that is no frame, then noted here -/
theorem note_held {Q : Unit → Shared → Prop} (hZ : HandSPX.Steady Z) (fr : A.frames = some (env :: outer)) (hf : env.frame = some L) (ne : C ≠ L) (hh : HandSPX.HeldZ base (env :: outer) e Z C s.heap)
    (hQ : ∀ h1, HandSPX.HeldZ base (env :: outer) e Z L h1 → s.heap.UpToSlots h1 → Q () { s with heap := h1 }) : wpAny M A (noteFrame (.ref e) env) Q E s := by
  obtain ⟨kb, en, fl, ox, xs, tb, ot, us, gx, zx, dx, x1, bt, te, gt, dt, u3⟩ := hh
  have sz := (Array.getElem?_eq_some_iff.mp u3).1
  generalize hg : s.heap.update tb (Obj.mapFields (·.setIfInBounds 3 Value.none)) = g
  have away : ∀ b, b ≠ tb → g.get? b = s.heap.get? b := fun b nb => by
    rw [← hg]
    exact Heap.get?_update_other _ _ (Ne.symm nb)
  have plainOb : ∀ b o, s.heap.get? b = some o → (∀ vs, o.data ≠ .fields vs) → b ≠ tb := fun b o q nf z => by
    subst z
    rw [gt] at q
    cases q
    exact nf us dt
  have up : s.heap.UpToSlots g := fun b o q nf => ⟨o.slots, by rw [away b (plainOb b o q nf)]; exact q⟩
  unfold noteFrame
  simp only [hf]
  refine wpAny_bind (wpAny_field gx dx x1 ?_)
  rw [if_pos (by simp)]
  refine wpAny_bind (wpAny_field gt dt u3 ?_)
  rw [if_neg (by
    intro z
    have z : rawInt C = rawInt L := by simpa using z
    unfold rawInt at z
    injection z with z1
    exact ne (Int.ofNat.inj z1))]
  refine wpAny_bind (wpAny_setField gt dt sz ?_)
  rw [hg]
  refine HandSPX.wpAny_entryZ hZ fr (fl.of_keeps fun b o q nf => ⟨o, by rw [away b (plainOb b o q nf)]; exact q, rfl⟩) hf (by rw [away e (Ne.symm te)]; exact gx) (fun b o q => ?_) en dx (Array.getElem?_eq_some_iff.mp x1).1 zx fun h1 hn => ?_
  · rw [away b (fun z => by rw [z, bt] at q; cases q)]
    exact kb b o q
  · obtain ⟨n1, n2, n3, n4⟩ := hn
    exact hQ h1 ⟨n1, en, n2, n3⟩ (up.trans n4)
/-- frames over another ground -/
theorem frames_on {h h' b b' : Heap} : ∀ {l : List PySem.Env}, h.FunFrames b l → (∀ a ∈ frs l, b'.get? a = none ∧ h'.get? a = h.get? a) → h'.FunFrames b' l
  | [], _, _ => trivial
  | v :: l, ⟨k, ⟨a, o, f, n, q, d⟩, r⟩, hx => by
    obtain ⟨m1, m2⟩ := hx a (List.mem_filterMap.mpr ⟨v, List.mem_cons_self, f⟩)
    refine ⟨k, ⟨a, o, f, m1, by rw [m2]; exact q, d⟩, frames_on r fun c hc => ?_⟩
    obtain ⟨v', hv, hq⟩ := List.mem_filterMap.mp hc
    exact hx c (List.mem_filterMap.mpr ⟨v', List.mem_cons_of_mem _ hv, hq⟩)
theorem note_same {v : Value} {e1 e2 : PySem.Env} (h : e1.frame = e2.frame) : noteFrame v e1 = noteFrame v e2 := by
  unfold noteFrame PySem.frameOf
  rw [h]
end
/-- the block of a comprehension whose items may raise -/
abbrev blkX (X : Cx) (s : Shared) (H : Hp) (scope : Scope) (ce : PySem.Env) (fp : List Addr) (xe : Value → Shared → Prop) : Cx :=
  { prog := X.prog, w := X.w, K := X.K, mg := X.mg, base := X.base, A := X.A, N := X.N, s_0 := s, H_0 := H, env := ce, outer := X.stack, stack := X.stack, ex := fp, fn := fun x => scope.names.lookup x == some .cell, calm := X.calm, pn := [], xe := xe }
/-- what a block's end asks of an exception -/
def LetOut (X : Cx) (ce : PySem.Env) (u : Value) (s' : Shared) : Prop :=
  ∃ m, s'.heap.Ns ce.locals m ∧ ∀ h', Heap.SameBut ce.locals s'.heap h' → wpAny (model X.prog X.w) X.A (passOn "comprehension.variables-let-go" u ce : Sem Value) (fun _ _ => False) X.xe { s' with heap := h' }
section
variable {X : Cx} {W : WX} {s3 : Shared} {H3 : Hp} {pins : List (Addr × Obj)} {σ : L2.St} {scope : Scope} {ce : PySem.Env} {fp : List Addr} {xe : Value → Shared → Prop}
theorem let_out (hst : X.stack = X.env :: X.outer) (hf : X.env.frame = some X.env.locals) (tk : Takes X W) (I3 : Inv X pins σ H3 s3) (f3 : ∀ b ∈ fp, FpOk X pins H3 b) (cf : ce.frame = X.env.frame) (cL : ce.locals = s3.heap.objs.size)
    (u : Value) (s' : Shared) (hx : XE (blkX X s3 H3 scope ce fp xe) (fun cls d _ H => W cls d σ H) u s') : notedBy (model X.prog X.w) X.A ce (LetOut X ce) u s' := by
  obtain ⟨a, B, sI, pins', σ', H', cls, d, rfl, I, nb, up, sky, na, os, ag, w⟩ := hx
  have nb : ∀ b o, sI.heap.get? b = some o → b ∉ frs X.stack → B.get? b = some o := nb
  have sky : Sky B X.stack a (Zc cls d) ce.locals s'.heap := sky
  have fr : X.A.frames = some (X.env :: X.outer) := by rw [I3.ok.frames, hst]
  have nC : H' ce.locals = none := I.free
  have hC : FpOk X pins H' ce.locals := I3.fpOk (by rw [cL]; exact Nat.le_refl _) nC
  have IX : Inv X pins σ H' sI := I3.call' (ch := fp) I.os I.base I.hok I.bare fun b hb => ⟨(f3 b hb).2.2.2.1, (f3 b hb).2.1, (f3 b hb).2.2.2.2.1, (f3 b hb).2.2.2.2.2⟩
  obtain ⟨m, hm, _⟩ := I.loc
  have hm : sI.heap.Ns ce.locals m := hm
  have cnf : ce.locals ∉ frs X.stack := fun z => by
    have h1 := IX.stkSub _ z
    rcases List.mem_cons.mp h1 with q | q
    · exact hC.2.1 q
    · exact hC.2.2.1 q
  -- behind the note
  have land : ∀ h1, HandSPX.HeldZ B X.stack a (Zc cls d) X.env.locals h1 → s'.heap.UpToSlots h1 → LetOut X ce (.ref a) { s' with heap := h1 } := fun h1 hh u1 => by
    have upI : sI.heap.UpToSlots h1 := up.trans u1
    refine ⟨m, upI.ns hm, fun h2 sb => ?_⟩
    obtain ⟨k1, k2, k3, k4⟩ := hh
    obtain ⟨oC, _, _, gC, _⟩ := hm
    have bC : B.get? ce.locals = some oC := nb _ _ gC cnf
    have keepB : ∀ b o, (PySem.W.hideAll B [ce.locals]).get? b = some o → B.get? b = some o ∧ b ≠ ce.locals := fun b o q =>
      ⟨PySem.W.of_hideAll _ q, fun z => by
        have := PySem.W.hideAll_none (h := B) [ce.locals] (b := b) (by simp [z])
        rw [this] at q
        cases q⟩
    have noneB : ∀ b, B.get? b = none → (PySem.W.hideAll B [ce.locals]).get? b = none := fun b q => by
      cases z : (PySem.W.hideAll B [ce.locals]).get? b with
      | none => rfl
      | some o =>
        have := (keepB b o z).1
        rw [q] at this
        cases this
    have offC : ∀ b, B.get? b = none → b ≠ ce.locals := fun b q z => by
      rw [z, bC] at q
      cases q
    have held : HandSPX.HeldZ (PySem.W.hideAll B [ce.locals]) X.stack a (Zc cls d) X.env.locals h2 := by
      refine ⟨fun b o q => ?_, noneB a k2, frames_on k3 fun b hb => ?_, ?_⟩
      · obtain ⟨q1, q2⟩ := keepB b o q
        rw [sb.2 b q2]
        exact k1 b o q1
      · have := (k3.mem hb).1
        exact ⟨noneB b this, sb.2 b (offC b this)⟩
      · obtain ⟨ox, xs, tb, ot, us, gx, zx, dx, x1, bt, te, gt, dt, u3⟩ := k4
        exact ⟨ox, xs, tb, ot, us, by rw [sb.2 a (offC a k2)]; exact gx, zx, dx, x1, noneB tb bt, te, by rw [sb.2 tb (offC tb bt)]; exact gt, dt, u3⟩
    unfold PySem.passOn
    have held2 := held
    obtain ⟨_, _, _, ox, xs, tb, ot, us, gx, zx, dx, x1, bt, te, gt, dt, u3⟩ := held2
    refine wpAny_bind (wpAny_field (s := { s' with heap := h2 }) gx dx x1 ?_)
    rw [if_neg (by simp)]
    rw [cf, hf]
    refine wpAny_bind (HandSPX.setFlight_onZ (s := { s' with heap := h2 }) held fun h4 hh4 up4 => wpAny_throw (tk _ _ ?_))
    refine ⟨a, PySem.W.hideAll B [ce.locals], { sI with heap := PySem.W.hideAll sI.heap [ce.locals] }, pins, σ, H', cls, d, rfl, ?_, fun b o q hb => ?_, fun b o q nf => ?_, .inr (.inr hh4), na, os, ag, w⟩
    · exact IX.turned (it := ce.locals) (t' := sI.toks) (fun b o nc q => PySem.W.hideAll_get _ q (by simpa using nc)) nC hC.2.1 hC.2.2.2.1 hC.2.2.2.2.1 hC.2.2.2.2.2
    · have q1 : sI.heap.get? b = some o := PySem.W.of_hideAll _ q
      have q2 : b ≠ ce.locals := fun z => by
        have := PySem.W.hideAll_none (h := sI.heap) [ce.locals] (b := b) (by simp [z])
        have q : (PySem.W.hideAll sI.heap [ce.locals]).get? b = some o := q
        rw [this] at q
        cases q
      exact PySem.W.hideAll_get _ (nb b o q1 hb) (by simpa using q2)
    · have q1 : sI.heap.get? b = some o := PySem.W.of_hideAll _ q
      have q2 : b ≠ ce.locals := fun z => by
        have := PySem.W.hideAll_none (h := sI.heap) [ce.locals] (b := b) (by simp [z])
        have q : (PySem.W.hideAll sI.heap [ce.locals]).get? b = some o := q
        rw [this] at q
        cases q
      obtain ⟨sl, q3⟩ := upI b o q1 nf
      have q4 : h2.get? b = some { o with slots := sl } := by
        rw [sb.2 b q2]
        exact q3
      obtain ⟨sl2, q5⟩ := up4 b _ q4 nf
      exact ⟨sl2, q5⟩
  show wpAny _ _ (noteFrame (.ref a) ce) _ _ _
  rw [note_same cf]
  rw [hst] at sky land
  rcases sky with ⟨hB, hn, hl, oe, vs, he, hz, hd, h1⟩ | fl | hh
  · exact HandSPX.look_newZ Zc.steady fr hl hf he hB hn hd h1 hz land
  · exact HandSPX.looks_onZ Zc.steady fr hf fl land
  · exact note_held Zc.steady fr hf hC.2.1 hh land
end
end Mch

/-! ## A list comprehension whose items may raise -/
namespace Mch
open PySem PySem.Spec PyProof.Rows L2
/-- the end of a block -/
def EndX (X : Cx) (ce : PySem.Env) (acc : Value) (Q : Value → Shared → Prop) : Result → Shared → Prop
  | .ok _, s' => ∃ m, s'.heap.Ns ce.locals m ∧ ∀ h', Heap.SameBut ce.locals s'.heap h' → Q acc { s' with heap := h' }
  | .error u, s' => LetOut X ce u s'
section
variable {X : Cx}
theorem comp_free {e : PySem.Expr} {scope : Scope} {pos : Pos} {mk fst : Sem Value} {c : Comprehension} {cs : List Comprehension} {cl : List (Str × Addr)} {Q : Value → Shared → Prop} {s : Shared}
    (h1 : clausesOf e = c :: cs) (h2 : ∀ x, foldedSetIterable c.iter X.env x = pure x) (h3 : closureFor scope X.env = pure cl) (h4 : scope.kind = .function) (h5 : ∀ y ∈ scope.names, scope.names.lookup y.1 = some y.2)
    (h : wpAny (model X.prog X.w) X.A fst (fun x t1 => wpAny (model X.prog X.w) X.A (pyIter x) (fun it t2 => wpAny (model X.prog X.w) X.A mk (fun acc t3 =>
      wpAny (model X.prog X.w) X.A (newFunctionEnv scope X.env.globals cl [] X.env.qual none .none (some X.env)) (fun cv t4 =>
        codeAny (model X.prog X.w) X.A (.compStart e 0 it acc { cv with scope := relabel scope X.env }) (EndX X { cv with scope := relabel scope X.env } acc Q) t4) X.xe t3) X.xe t2) X.xe t1) X.xe s) :
    wpAny (model X.prog X.w) X.A (comprehension e scope X.env pos mk false fst none) Q X.xe s := by
  have same : ∀ {α : Type} {t : Sem α} {P P' : α → Shared → Prop} {s : Shared}, wpAny (model X.prog X.w) X.A t P X.xe s → (∀ a s', P a s' → P' a s') → wpAny (model X.prog X.w) X.A t P' X.xe s := fun w hp => wpAny_mono w hp fun _ _ q => q
  unfold comprehension
  rw [h3, h1]
  refine wpAny_bind (same h fun x t1 w1 => ?_)
  refine wpAny_bind (wpAny_standAt (wpAny_bind (wpAny_of_eq (h2 x) ?_)))
  refine wpAny_bind (wpAny_holding (same w1 fun it t2 w2 => wpAny_standIf ?_))
  refine wpAny_bind (same w2 fun acc t3 w3 => wpAny_bind (wpAny_pure (wpAny_bind (same w3 fun cv t4 w4 => ?_))))
  dsimp only
  have loc : ∀ y ∈ (scope.names.filter fun y => (y.2 == .local || y.2 == .cell) && y.1 != (".0" : Str)).reverse, y.2 = .local → PySem.Env.kindOf { cv with scope := relabel scope X.env } y.1 = some .local := fun y hy hl =>
    lookup_relabel_local (by rw [h5 y (List.mem_filter.mp (List.mem_reverse.mp hy)).1, hl])
  refine wpAny_holding (wpAny_bind (wpAny_attempt (wpAny_holding (wpAny_run (codeAny_mono w4 fun r t5 hr => ?_)))))
  cases r with
  | ok f =>
    obtain ⟨m, hm, hq⟩ := hr
    refine wpAny_bind (wpAny_holding (wpAny_comp_letGo (cenv := { cv with scope := relabel scope X.env }) h4 _ t5 m loc hm fun h' _ _ sb => wpAny_pure (hq h' sb)))
  | error u =>
    obtain ⟨m, hm, hq⟩ := hr
    refine wpAny_bind (wpAny_holding (wpAny_comp_letGo (cenv := { cv with scope := relabel scope X.env }) h4 _ t5 m loc hm fun h' _ _ sb => ?_))
    exact wpAny_mono (hq h' sb) (fun _ _ z => z.elim) fun _ _ q => q
/-- items by a wish for exceptions -/
def tLcX (W : WX) (wi : TI) (g : TG) (tt : TT) (te : WX → TE) (vs : List Nat) : TE := fun σ H Q => tLc wi g tt (te fun cls d _ H => W cls d σ H) vs σ H Q
theorem pe_lcX {W : WX} {elt tg iter : PySem.Expr} {ifs : List PySem.Expr} {scope : Scope} {own : List (Str × Nat)} {pos : Pos} {wi : TI} {g : TG} {tt : TT} {te : WX → TE} (hst : X.stack = X.env :: X.outer) (hf : X.env.frame = some X.env.locals) (tk : Takes X W)
    (hc : X.calm = true) (hN : X.N.Nodup) (hi : PI X tg iter wi) (ok : BlkOk X.N X.env.scope scope own)
    (hg : ∀ (s : Shared) (H : Hp) (C : Addr) (cl : List (Str × Addr)) (fp : List Addr), PG (X.blk s H scope (compEnvC scope cl C X.env) fp) tg g)
    (ht : ∀ (s : Shared) (H : Hp) (C : Addr) (cl : List (Str × Addr)) (fp : List Addr), PTs (X.blk s H scope (compEnvC scope cl C X.env) fp) ifs tt)
    (he : ∀ (s : Shared) (H : Hp) (C : Addr) (cl : List (Str × Addr)) (fp : List Addr) (xe : Value → Shared → Prop) (W' : WX), Takes (blkX X s H scope (compEnvC scope cl C X.env) fp xe) W' → PE (blkX X s H scope (compEnvC scope cl C X.env) fp xe) elt (te W'))
    (hs : ∀ x, foldedSetIterable iter X.env x = pure x := by intro _; rfl) : PE X (.ListComp elt [⟨tg, iter, ifs, 0⟩] scope pos) (tLcX W wi g tt te (own.map (·.2))) := by
  refine ⟨fun pins s σ H Q I h => ?_⟩
  rw [eval_ListComp]
  have fre : ∀ y ∈ scope.names, y.2 = .free → ∃ c, X.env.cells.lookup y.1 = some c := fun y hy z => (ok.free y hy z).elim (fun q => I.ok.has _ (.inl q)) fun q => I.ok.has _ (.inr q)
  refine comp_free (X := X) rfl hs (closure_ok fre) ok.kind ok.uniq (thn (hi.run pins s σ H _ I h) fun xv s1 hx => thn hx fun itv s2 h2 => ?_)
  obtain ⟨it, fp, tn, J, H2, rfl, I2, T, st2, f2, q⟩ := h2
  refine wpAny_newObj_type (newEnv_comp ?_) (Nat.zero_le _)
  obtain ⟨D, hD⟩ : ∃ D, s2.heap.objs.size = D := ⟨_, rfl⟩
  rw [hD]
  obtain ⟨Wt, ⟨m0, w0⟩, turn⟩ := q D (I2.hok.fresh (Nat.le_of_eq hD))
  obtain ⟨s3, hs3⟩ : ∃ s3 : Shared, ({ s2 with heap := s2.heap.push { cls := .type "list", data := .seq ([] : List Value).toArray } } : Shared) = s3 := ⟨_, rfl⟩
  have e3 : s3.heap = s2.heap.push { cls := .type "list", data := .seq ([] : List Value).toArray } := by rw [← hs3]
  have on3 : ∀ b o, s2.heap.get? b = some o → s3.heap.get? b = some o := fun b o z => by rw [e3]; exact Heap.get?_push_of_some _ z
  have I3 : Inv X pins σ (upd H2 D (.lst [])) s3 := by
    rw [← hs3]
    refine I2.laid (t' := s2.toks) (fun b o z => Heap.get?_push_of_some _ z) (Nat.le_of_eq hD) ⟨Nat.zero_le _, [], 0, .nil, ?_⟩
    rw [← hD]
    exact Heap.get?_push_size _ rfl
  have f3 : ∀ b ∈ fp, FpOk X pins (upd H2 D (.lst [])) b ∧ b < s3.heap.objs.size := fun b hb => by
    obtain ⟨o, z, _⟩ := T.obj _ _ st2 b hb
    have lt := Heap.lt_size z
    refine ⟨⟨?_, (f2 b hb).2⟩, by rw [e3, Heap.size_push]; exact Nat.lt_succ_of_lt lt⟩
    rw [upd_ne (by rw [← hD]; exact Nat.ne_of_lt lt)]
    exact (f2 b hb).1
  have st3 : tn 0 s3.heap := T.keep _ _ _ st2 fun b _ o z => on3 b o z
  have I4 := block_start I3 ok hN f3
  obtain ⟨cl, hcl⟩ : ∃ cl, cellsFrom (s3.heap.objs.size + 1) scope.names (cloFrom X.env.cells scope.names []) = cl := ⟨_, rfl⟩
  have hce : ∃ ce, compEnvC scope cl s3.heap.objs.size X.env = ce := ⟨_, rfl⟩
  have pg := hg s3 (upd H2 D (.lst [])) s3.heap.objs.size cl fp
  have pt := ht s3 (upd H2 D (.lst [])) s3.heap.objs.size cl fp
  have lo := fun xe => let_out (W := W) (scope := scope) (ce := compEnvC scope cl s3.heap.objs.size X.env) (xe := xe) hst hf tk I3 (fun b hb => (f3 b hb).1) rfl rfl
  have pe := he s3 (upd H2 D (.lst [])) s3.heap.objs.size cl fp (notedBy (model X.prog X.w) X.A (compEnvC scope cl s3.heap.objs.size X.env) (LetOut X (compEnvC scope cl s3.heap.objs.size X.env))) (fun cls d _ H => W cls d σ H) (lo _)
  have nfp : ∀ b ∈ fp, (upd H2 D (.lst [])) b = none := fun b hb => (f3 b hb).1.1
  rw [hcl] at I4
  show codeAny _ _ (.compStart (.ListComp elt [⟨tg, iter, ifs, 0⟩] scope pos) 0 (.ref it) (.ref D) (compEnvC scope (cellsFrom (({ s2 with heap := s2.heap.push { cls := .type "list", data := .seq ([] : List Value).toArray } } : Shared).heap.objs.size + 1) scope.names (cloFrom X.env.cells scope.names [])) ({ s2 with heap := s2.heap.push { cls := .type "list", data := .seq ([] : List Value).toArray } } : Shared).heap.objs.size X.env)) (EndX X (compEnvC scope (cellsFrom (({ s2 with heap := s2.heap.push { cls := .type "list", data := .seq ([] : List Value).toArray } } : Shared).heap.objs.size + 1) scope.names (cloFrom X.env.cells scope.names [])) ({ s2 with heap := s2.heap.push { cls := .type "list", data := .seq ([] : List Value).toArray } } : Shared).heap.objs.size X.env) (.ref D) (EP X pins σ Q)) { ({ s2 with heap := s2.heap.push { cls := .type "list", data := .seq ([] : List Value).toArray } } : Shared) with heap := pushCells (({ s2 with heap := s2.heap.push { cls := .type "list", data := .seq ([] : List Value).toArray } } : Shared).heap.push { cls := .type "dict", data := .dict #[] }) scope.names }
  rw [hs3, hcl]
  obtain ⟨ce, hce⟩ : ∃ ce, compEnvC scope cl s3.heap.objs.size X.env = ce := ⟨_, rfl⟩
  have cL : ce.locals = s3.heap.objs.size := by rw [← hce]; rfl
  rw [hce] at I4 pg pt pe ⊢
  obtain ⟨H3, hH3⟩ : ∃ H3, upd H2 D (.lst []) = H3 := ⟨_, rfl⟩
  rw [hH3] at I3 I4 pg pt pe w0 nfp f3
  obtain ⟨s4, hs4⟩ : ∃ s4 : Shared, ({ s3 with heap := pushCells (s3.heap.push { cls := .type "dict", data := .dict #[] }) scope.names } : Shared) = s4 := ⟨_, rfl⟩
  rw [hs4] at I4 ⊢
  have st4 : tn 0 s4.heap := T.keep _ _ _ st3 fun b _ o z => by rw [← hs4]; exact pushCells_keeps _ _ _ _ (Heap.get?_push_of_some _ z)
  have sta : ∀ {σ' : L2.St} {H' : Hp} {s' : Shared}, Inv (X.blk s3 H3 scope ce fp) [] σ' H' s' → (∀ b ∈ fp, H' b = none) → ∀ b ∈ fp, FpOk (X.blk s3 H3 scope ce fp) [] H' b := fun J hn b hb =>
    ⟨hn b hb, (J.ok.exf b hb).1, J.ok.exfs b hb, .inl hb, fun x c z => (J.ok.exf b hb).2 x c z, fun p hp => by simp at hp⟩
  -- a run that raises nothing
  have still : ∀ {α : Type} {t : Sem α} {P P' : α → Shared → Prop} {E' : Value → Shared → Prop} {s : Shared}, wpAny (model X.prog X.w) X.A t P (fun _ _ => False) s → (∀ a s', P a s' → P' a s') → wpAny (model X.prog X.w) X.A t P' E' s := fun w hp => wpAny_mono w hp fun _ _ z => z.elim
  have loop : codeAny (model X.prog X.w) X.A (.compLoop (.ListComp elt [⟨tg, iter, ifs, 0⟩] scope pos) 0 (.ref it) (.ref D) ce) (EndX X ce (.ref D) (EP X pins σ Q)) s4 := by
    refine compLoop_any (fun n s' => ∃ i H', Inv (X.blk s3 H3 scope ce fp) [] (wipe σ (own.map (·.2))) H' s' ∧ tn i s'.heap ∧ (∀ b ∈ fp, H' b = none) ∧ Wt i n H') ?_ m0 ⟨0, H3, I4, st4, nfp, w0⟩
    rintro n s5 ⟨i, H5, I5, st5, n5, w5⟩
    rcases turn i n H5 w5 with ⟨stop, qq⟩ | ⟨go, Nx, hNx, step⟩
    · refine still (T.done (X.blk s3 H3 scope ce fp) rfl rfl rfl hc i [] s5 _ H5 (fun _ _ => False) I5 (sta I5 n5) st5 stop) fun r s6 ⟨hr, I6⟩ => ?_
      subst hr
      have I7 : Inv X pins σ H5 s6 := I3.call' (ch := fp) I6.os I6.base I6.hok I6.bare fun b hb => ⟨(f3 b hb).1.2.2.2.1, (f3 b hb).1.2.1, (f3 b hb).1.2.2.2.2.1, (f3 b hb).1.2.2.2.2.2⟩
      obtain ⟨m, hn, _⟩ := I6.loc
      have fC : FpOk X pins H5 ce.locals := I3.fpOk (by rw [cL]; exact Nat.le_refl _) I6.free
      refine ⟨m, hn, fun h'' sb => ?_⟩
      obtain ⟨g0, g1, g2, g3, g4, g5⟩ := fC
      exact ⟨.ref D, H5, I7.turned (t' := s6.toks) (fun b o nb z => (sb.2 b nb).trans z) g0 g1 g3 g4 g5, rfl, qq⟩
    · refine still (T.item (X.blk s3 H3 scope ce fp) rfl rfl rfl hc i [] s5 _ H5 (fun _ _ => False) I5 (sta I5 n5) st5 go) fun r s6 ⟨u, hr, h6⟩ => ?_
      subst hr
      refine still h6 fun _ s7 ⟨x, H7, I7, r7, y7, st7, n7⟩ => ?_
      have J7 := I7.pinned (sta I7 n7) (T.obj _ _ st7)
      refine still (pg.run _ s7 _ H7 x u _ J7 r7 (step x H7 y7)) fun _ s8 ⟨σ8, H8, I8, hw8, q8⟩ => ?_
      refine still (pt.run _ s8 σ8 H8 _ I8 q8) fun b s9 ⟨H9, I9, q9⟩ => ?_
      have fin : ∀ {s' : Shared} {H' : Hp}, Inv (X.blk s3 H3 scope ce fp) ([] ++ pinsAt fp s7.heap) σ8 H' s' → Nx H' → ∃ m, m < n ∧ ∃ i H', Inv (X.blk s3 H3 scope ce fp) [] (wipe σ (own.map (·.2))) H' s' ∧ tn i s'.heap ∧ (∀ b ∈ fp, H' b = none) ∧ Wt i m H' := fun {s' H'} J nx => by
        obtain ⟨m', hm, w'⟩ := hNx H' nx
        have pin : ∀ b ∈ fp, ∀ o, s7.heap.get? b = some o → s'.heap.get? b = some o ∧ H' b = none := fun b hb o z =>
          let y := J.pin (b, o) (List.mem_append_right _ (List.mem_append_right _ (mem_pinsAt hb z)))
          ⟨y.1, y.2.1⟩
        refine ⟨m', hm, i + 1, H', (J.unpinned (pins := [])).weak (by rw [← hw8, wipe_length]) (fun j v z => ?_), T.keep _ _ _ st7 fun b hb o z => (pin b hb o z).1, fun b hb => ?_, w'⟩
        · rw [← hw8] at z
          exact (wipe_some z).1
        · obtain ⟨o, z, _⟩ := T.obj _ _ st7 b hb
          exact (pin b hb o z).2
      cases b with
      | false =>
        simp only [Bool.false_eq_true, if_false] at q9 ⊢
        exact fin I9 q9
      | true =>
        simp only [if_true] at q9 ⊢
        have I9' : Inv (blkX X s3 H3 scope ce fp (notedBy (model X.prog X.w) X.A ce (LetOut X ce))) ([] ++ pinsAt fp s7.heap) σ8 H9 s9 := ⟨⟨I9.ok.1, I9.ok.2, I9.ok.3, I9.ok.4, I9.ok.5, I9.ok.6, I9.ok.7, I9.ok.8, I9.ok.9, I9.ok.10, I9.ok.11, I9.ok.12, I9.ok.13, I9.ok.14, I9.ok.15, I9.ok.16, I9.ok.17, I9.ok.18⟩, I9.os, I9.bare, I9.base, I9.loc, I9.cell, I9.free, I9.freeC, I9.pin, I9.hok, I9.len⟩
        refine wpAny_mono (pe.run _ s9 σ8 H9 _ I9' q9) (fun z s10 ⟨yv, H10, I10, r10, acc, hD10, hz10, nx⟩ => ?_) fun _ _ q => q
        have I10' : Inv (X.blk s3 H3 scope ce fp) ([] ++ pinsAt fp s7.heap) σ8 H10 s10 := ⟨⟨I10.ok.1, I10.ok.2, I10.ok.3, I10.ok.4, I10.ok.5, I10.ok.6, I10.ok.7, I10.ok.8, I10.ok.9, I10.ok.10, I10.ok.11, I10.ok.12, I10.ok.13, I10.ok.14, I10.ok.15, I10.ok.16, I10.ok.17, I10.ok.18⟩, I10.os, I10.bare, I10.base, I10.loc, I10.cell, I10.free, I10.freeC, I10.pin, I10.hok, I10.len⟩
        exact app_ok (X := X.blk s3 H3 scope ce fp) I10' hD10 hz10 r10 fun s11 I11 => fin I11 nx
  exact codeAny_compStart_list loop (T.self X.A 0 _ _ _ st4 loop)
end
end Mch

/-! ## Comprehensions whose items may raise; written dicts -/
namespace Mch
open PySem PySem.Spec PyProof.Rows L2
section
variable {X : Cx} {g : Glob} {T : Tab} {W : WX} {md : Md}
noncomputable def bodyX (T : Tab) (A TG CD : E) (own : List Nat) (σm : Env) : List MV → MV → Mem → R (List MV) := fun acc x μ => (R.opt (bindT TG x (wipeM σm own)) μ).bind fun σ1 μ => (R.calm ((evE T CD σ1 μ).bind fun k μ => truR k μ)).bind fun k μ =>
  if k then (evE T A σ1 μ).bind fun v μ => putL acc v μ else .ok acc μ
/-- the new list D grows; rF is how it ends -/
def WX' (g : Glob) (D : Addr) (φ1 : List Addr) (G1 H1 : Hp) (J : MV) (J' : It) (body : List MV → MV → Mem → R (List MV)) (rF : R (List MV)) : Nat → Nat → Hp → Prop := fun i m H => ∃ φ2 G2 μ2 acc accV,
  Ext none φ1 G1 H1 φ2 G2 H ∧ Rel g φ2 G2 μ2 ∧ ItR g φ2 G2 J J' ∧ H D = some (.lst accV) ∧ G2 D = none ∧ RVs g φ2 G2 acc accV ∧ compL J body m i acc μ2 = rF
theorem bind_cases {α β : Type} {r : R α} {f : α → Mem → R β} {rF : R β} (h : r.bind f = rF) (nF : rF ≠ .no) : (∃ a μ, r = .ok a μ ∧ f a μ = rF) ∨ ∃ x μ, r = .exc x μ ∧ rF = .exc x μ := by
  cases r with
  | ok a μ => exact .inl ⟨a, μ, rfl, h⟩
  | exc x μ => exact .inr ⟨x, μ, rfl, h.symm⟩
  | no => exact absurd h.symm nF
theorem compX_read {IT A TG CD : E} {own : List Nat} {σ : L2.St} {H : Hp} {Q : VK} (hmd : ∀ j a c d, md ≠ .exc j a c d) (hsl : ∀ i ∈ tgSlots TG, i ∈ own) (h : tE g T W md (.compX A TG IT CD own) σ H Q) :
    tLcX W (tI g T W md IT) (gB g md.blk TG) (tT g T W0 md.blk CD) (fun W' => tE g T W' md.blk A) own σ H Q := by
  obtain ⟨φ, G, μ, σm, sb, r, en, h⟩ := h
  simp only [evE] at h
  have h : Good g W σ φ G H ((evE T IT σm μ).bind fun J μ => (itM μ J).bind fun J μ => (compL J (bodyX T A TG CD own σm) T.n 0 [] μ).bind fun xs μ => newL xs μ) (kE g Q) := h
  have h : Good g W σ φ G H (((evE T IT σm μ).bind fun J μ => itM μ J).bind fun J μ => (compL J (bodyX T A TG CD own σm) T.n 0 [] μ).bind fun xs μ => newL xs μ) (kE g Q) := by
    cases e0 : evE T IT σm μ <;> rw [e0] at h <;> exact h
  refine ⟨φ, G, μ, σm, sb, r, en, h.bind.imp fun J μ1 φ1 G1 H1 e1 r1 k J' hJ D hD => ?_⟩
  obtain ⟨rF, hF⟩ : ∃ rF, compL J (bodyX T A TG CD own σm) T.n 0 [] μ1 = rF := ⟨_, rfl⟩
  rw [hF] at k
  have nF : rF ≠ .no := fun z => by
    rw [z] at k
    exact k.elim
  have nD1 : G1 D = none := e1.sub.none hD
  have e01 : Ext none φ1 G1 H1 φ1 G1 (upd H1 D (.lst [])) := side_put (Ext.refl e1.sub) hD nD1
  refine ⟨WX' g D φ1 G1 H1 J J' (bodyX T A TG CD own σm) rF, ⟨T.n, φ1, G1, μ1, [], [], e01, r1, hJ, upd_same, nD1, rvs_nil, hF⟩, fun i m H2 hw => ?_⟩
  obtain ⟨φ2, G2, μ2, acc, accV, e2, r2, hJ2, hD2, nD2, rv2, hc⟩ := hw
  cases m with
  | zero =>
    simp only [compL] at hc
    exact absurd hc.symm nF
  | succ m =>
    simp only [compL] at hc
    split at hc
    · rename_i x hn
      obtain ⟨hgo, hyld⟩ := it_go r2 e2.sub hJ2 hn
      refine .inr ⟨hgo, fun H' => WX' g D φ1 G1 H1 J J' (bodyX T A TG CD own σm) rF (i + 1) m H', fun H' hw' => ⟨m, Nat.lt_succ_self m, hw'⟩, fun v H3 hy => ?_⟩
      obtain ⟨G3, e3, r3, rx⟩ := hyld v H3 hy
      obtain ⟨e13, hD3, nD3⟩ := side e2 e3 hD2 nD2
      have hbx : bodyX T A TG CD own σm acc x μ2 = (R.opt (bindT TG x (wipeM σm own)) μ2).bind fun σ1 μ => (R.calm ((evE T CD σ1 μ).bind fun k μ => truR k μ)).bind fun k μ => if k then (evE T A σ1 μ).bind fun v μ => putL acc v μ else .ok acc μ := rfl
      have en4 := ((((en.env.ext e1).ext e13).wipe own).blk hmd)
      -- the turn's parts
      have parts : ∃ σ1, bindT TG x (wipeM σm own) = some σ1 ∧ ∃ kb μ5, ((evE T CD σ1 μ2).bind fun k μ => truR k μ) = .ok kb μ5 ∧
          ((kb = false ∧ compL J (bodyX T A TG CD own σm) m (i + 1) acc μ5 = rF) ∨ (kb = true ∧ ((∃ x' μ', evE T A σ1 μ5 = .exc x' μ' ∧ rF = .exc x' μ') ∨ ∃ vv μ6 acc' μ4, evE T A σ1 μ5 = .ok vv μ6 ∧ putL acc vv μ6 = .ok acc' μ4 ∧ compL J (bodyX T A TG CD own σm) m (i + 1) acc' μ4 = rF))) := by
        rcases bind_cases hc nF with ⟨acc', μ4, hb, hrest⟩ | ⟨x', μ', hb, hF'⟩
        · rw [hbx] at hb
          obtain ⟨σ1, μ2', hb1, hb2⟩ := bind_ok hb
          obtain ⟨hb0, rfl⟩ := opt_ok hb1
          obtain ⟨kb, μ5, hk1, hk2⟩ := bind_ok hb2
          refine ⟨σ1, hb0, kb, μ5, calm_ok hk1, ?_⟩
          cases kb with
          | false =>
            simp only [Bool.false_eq_true, if_false, R.ok.injEq] at hk2
            obtain ⟨rfl, rfl⟩ := hk2
            exact .inl ⟨rfl, hrest⟩
          | true =>
            simp only [if_true] at hk2
            obtain ⟨vv, μ6, hv1, hp1⟩ := bind_ok hk2
            exact .inr ⟨rfl, .inr ⟨vv, μ6, acc', μ4, hv1, hp1, hrest⟩⟩
        · rw [hbx] at hb
          rcases bind_cases hb (fun z => by cases z) with ⟨σ1, μ2', hb1, hb2⟩ | ⟨y', ν', hb1, _⟩
          · obtain ⟨hb0, rfl⟩ := opt_ok hb1
            rcases bind_cases hb2 (fun z => by cases z) with ⟨kb, μ5, hk1, hk2⟩ | ⟨y', ν', hk1, _⟩
            · refine ⟨σ1, hb0, kb, μ5, calm_ok hk1, ?_⟩
              cases kb with
              | false =>
                simp only [Bool.false_eq_true, if_false] at hk2
                cases hk2
              | true =>
                simp only [if_true] at hk2
                rcases bind_cases hk2 (fun z => by cases z) with ⟨vv, μ6, hv1, hp1⟩ | ⟨y', ν', hv1, hq⟩
                · unfold putL at hp1
                  split at hp1 <;> cases hp1
                · cases hq
                  exact .inr ⟨rfl, .inl ⟨_, _, hv1, hF'⟩⟩
            · exfalso
              unfold R.calm at hk1
              split at hk1
              · cases hk1
              · rename_i hne
                exact hne _ _ hk1
          · exfalso
            cases hbb : bindT TG x (wipeM σm own) <;> rw [hbb] at hb1 <;> cases hb1
      obtain ⟨σ1, hb0, kb, μ5, hcd, hrest⟩ := parts
      refine ⟨φ2, G3, x, wipeM σm own, σ1, e3.sub, rx, en4, hb0, fun σ' en' st => ⟨(st.wipe hsl).trans (wipe_wipe own σ), φ2, G3, _, σ1, e3.sub, r3, RSt.of en', ?_⟩⟩
      refine good_ok (a := kb) (μ := μ5) hcd fun φ4 G4 H4 e4 r4 => ?_
      obtain ⟨e14, hD4, nD4⟩ := side e13 e4 hD3 nD3
      rcases hrest with ⟨rfl, hrest⟩ | ⟨rfl, hrest⟩
      · rw [if_neg Bool.false_ne_true]
        exact ⟨φ4, G4, _, acc, accV, e14, r4, (hJ2.ext e3).ext e4, hD4, nD4, (rv2.ext e3).ext e4, hrest⟩
      · rw [if_pos rfl]
        rcases hrest with ⟨x', μ', hev, rfl⟩ | ⟨vv, μ6, acc', μ4, hev, hp1, hrest⟩
        · refine ⟨φ4, G4, μ5, σ1, e14.sub, r4, (RSt.of en').ext e4, ?_⟩
          rw [hev]
          exact fun φ5 G5 H5 e5 r5 cls dd hx => k φ5 G5 H5 (e14.trans e5) r5 cls dd hx
        · exact item_ok hD e14 r4 ((RSt.of en').ext e4) hD4 nD4 ((rv2.ext e3).ext e4) hev hp1 fun φ5 G5 H5 accV' e15 e45 r5 hD5 nD5 rv5 => ⟨φ5, G5, μ4, acc', accV', e15, r5, ((hJ2.ext e3).ext e4).ext e45, hD5, nD5, rv5, hrest⟩
    · rename_i hn
      subst hc
      refine .inl ⟨it_stop r2 e2.sub hJ2 hn, ?_⟩
      have k : Good g W σ φ1 G1 H1 (newL acc μ2) (kE g Q) := k
      unfold newL at k
      split at k
      · obtain ⟨e3, r3⟩ := side_end e2 r2 hD hD2 nD2 rv2
        refine k _ _ _ e3 r3 _ ?_
        simp only [RV]
        exact ⟨D, rfl, by rw [← r2.len, List.getElem?_append_right (Nat.le_refl _), Nat.sub_self]; rfl⟩
      · exact k.elim
    · exact absurd hc.symm nF
section
variable {elt tg iter : PySem.Expr} {ifs : List PySem.Expr} {scope : Scope} {own : List (Str × Nat)} {TG IT CD A : E} {pos : Pos}
theorem se_compX (hst : X.stack = X.env :: X.outer) (hf : X.env.frame = some X.env.locals) (tk : Takes X W) (hc : X.calm = true) (hN : X.N.Nodup) (hmd : ∀ j a c d, md ≠ .exc j a c d) (hi : PI X tg iter (tI g T W md IT)) (ok : BlkOk X.N X.env.scope scope own) (hsl : ∀ i ∈ tgSlots TG, i ∈ own.map (·.2))
    (hg : ∀ (s : Shared) (H : Hp) (C : Addr) (cl : List (Str × Addr)) (fp : List Addr), PG (X.blk s H scope (compEnvC scope cl C X.env) fp) tg (gB g md.blk TG)) (ht : ∀ (s : Shared) (H : Hp) (C : Addr) (cl : List (Str × Addr)) (fp : List Addr), PTs (X.blk s H scope (compEnvC scope cl C X.env) fp) ifs (tT g T W0 md.blk CD))
    (he : ∀ (s : Shared) (H : Hp) (C : Addr) (cl : List (Str × Addr)) (fp : List Addr) (xe : Value → Shared → Prop) (W' : WX), Takes (blkX X s H scope (compEnvC scope cl C X.env) fp xe) W' → PE (blkX X s H scope (compEnvC scope cl C X.env) fp xe) elt (tE g T W' md.blk A)) (hs : notSet iter = true) :
    PE X (.ListComp elt [⟨tg, iter, ifs, 0⟩] scope pos) (tE g T W md (.compX A TG IT CD (own.map (·.2)))) :=
  ⟨fun pins s σ H Q I h => (pe_lcX hst hf tk hc hN hi ok hg ht he (fold_of hs)).run pins s σ H Q I (compX_read hmd hsl h)⟩
end
/-! ### written dicts of ints -/
theorem se_dic {i j : Int} {o1 o2 : Nat} {p1 p2 pos : Pos} (h1 : PE X (.Constant (.int i) o1 p1) (tC (.int i))) (h2 : PE X (.Constant (.int j) o2 p2) (tC (.int j))) : PE X (.Dict [some (.Constant (.int i) o1 p1)] [.Constant (.int j) o2 p2] pos) (tE g T W md (.dic [(i, j)])) := by
  refine ⟨fun pins s σ H Q I h => (pe_disp (pps_cons h1 h2 pps_nil) rfl rfl (by simp) (by simp)).run pins s σ H Q I ?_⟩
  obtain ⟨φ, G, μ, σm, sb, r, en, h⟩ := h
  simp only [evE] at h
  refine fun p hp => ⟨upd_same, [(.inl i, .int j)], rfl, by simp, ?_⟩
  rw [upd_upd]
  have hG := sb.none hp
  have e : Ext none φ G H φ (L2.upd G p (.dK (mergeK [] [(.inl i, .int j)]))) (L2.upd H p (.dK (mergeK [] [(.inl i, .int j)]))) := by
    have := Ext.new (ex := none) (φ := φ) sb (o := .dK (mergeK [] [(.inl i, .int j)])) hp []
    rwa [List.append_nil] at this
  refine h φ _ _ e (r.grow (sub_new hG)) _ ?_
  simp only [RV]
  exact ⟨p, _, rfl, upd_same⟩
end
end Mch

/-! ## From the syntax to the machine's -/
namespace Mch
open PySem PySem.Spec PyProof.Rows L2
structure Cfg where
  N : List Str
  sc : Scope
  fn : Str → Bool := fun _ => true
  fns : List Str
  cls : List (Str × Nat)
  blts : List Str
  P : Prog
  xs : Option Nat := none
  exc : Bool := false
  calm : Bool := true
  stm : Bool := true
  ob : Bool := false
  cx : Bool := false
  ics : List (Str × Int) := []
  dcs : List Str := []
def Cfg.obj (c : Cfg) : Bool := c.ob && c.calm
def mapO {α β : Type} (f : α → Option β) : List α → Option (List β)
  | [] => some []
  | a :: r => match f a, mapO f r with
    | some b, some bs => some (b :: bs)
    | _, _ => none
def ixOf (x : Str) : List Str → Option Nat
  | [] => none
  | y :: r => if y = x then some 0 else (ixOf x r).map (· + 1)
theorem ixOf_get {x : Str} : ∀ {l : List Str} {i : Nat}, ixOf x l = some i → l[i]? = some x
  | [], _, h => by cases h
  | y :: r, i, h => by
    unfold ixOf at h
    split at h
    · rename_i e
      cases h
      rw [e]
      rfl
    · obtain ⟨j, h1, rfl⟩ := Option.map_eq_some_iff.mp h
      rw [List.getElem?_cons_succ]
      exact ixOf_get h1
def isVis : Option NameKind → Bool
  | some .local => true
  | some .cell => true
  | some .free => true
  | _ => false
def slotOf (c : Cfg) (x : Str) : Option Nat := if isVis (c.sc.names.lookup x) && (!(x == "__debug__") && !(x == "__classdict__")) then ixOf x c.N else none
def varOf (c : Cfg) (x : Str) : Option Nat := match slotOf c x with
  | some i => if c.xs = some i then none else some i
  | none => none
def isGl (c : Cfg) (x : Str) : Bool := decide (c.sc.names.lookup x = some .globalImplicit) && (!(x == "__debug__") && !(x == ""))
def allBI : List BI := [.abs, .len, .all, .any, .int, .str, .tuple, .list, .sum, .min, .max]
def biOf (x : Str) : Option BI := allBI.find? fun b => biName b == x
def allMt : List Mt := [.append, .join, .startswith, .removeprefix, .partition, .split]
def mtOf (x : Str) : Option Mt := allMt.find? fun m => mtName m == x
def tyOfN (x : Str) : Option TyR := [TyR.int, .bool, .str, .list, .tuple, .dict].find? fun t => tyName t == some x
/-! ### expressions -/
def cConst : Const → Option E
  | .int i => some (.int i)
  | .bool b => some (.bl b)
  | .none => some .non
  | .str s => some (.str s)
  | _ => none
def cName (c : Cfg) (x : Str) : Option E := match varOf c x with
  | some i => some (.var i)
  | none => if isGl c x then (match c.ics.lookup x with
    | some i => some (.int i)
    | none => (ixOf x c.fns).map .fn) else none
def cEs (rec : PySem.Expr → Option E) (es : List PySem.Expr) : Option (List E) := if es.all plain then mapO rec es else none
def cTy (c : Cfg) : PySem.Expr → Option TyR
  | .Name x _ => if isGl c x then (match c.cls.lookup x with
    | some j => some (.cls j)
    | none => if c.blts.contains x then tyOfN x else none) else none
  | _ => none
def cIsin (c : Cfg) (A : E) : PySem.Expr → Option E
  | .Name x p => (cTy c (.Name x p)).map fun t => .isin A [t]
  | .Tuple es _ _ => if decide (es.length ≤ 50) && !es.isEmpty then (mapO (cTy c) es).map fun ts => .isin A ts else none
  | _ => none
/-- a class that is made -/
def mkOf (c : Cfg) (x : Str) : Option Nat := if c.ob then (match c.cls.lookup x with
  | some j => (match c.P.clss[j]? with
    | some C => if !C.exc && C.init.isSome then some j else none
    | none => none)
  | none => none) else none
def cStr (rec : PySem.Expr → Option E) : List PySem.Expr → Option E
  | [a] => if plain a then (rec a).map .ostr else none
  | _ => none
def cCallN (c : Cfg) (rec : PySem.Expr → Option E) (x : Str) (es : List PySem.Expr) : Option E := match varOf c x with
  | some i => (cEs rec es).map fun As => .callv i As
  | none => if isGl c x then (match ixOf x c.fns with
    | some f => (cEs rec es).map fun As => .call f As
    | none => match mkOf c x with
    | some j => (cEs rec es).map fun As => .mk j As
    | none => if c.ob && (x == "str") then (if c.blts.contains x then cStr rec es else none) else if c.blts.contains x then (if x = "isinstance" then (match es with
        | [a, t] => if plain a then (rec a).bind fun A => cIsin c A t else none
        | _ => none) else match biOf x with
        | some b => if es.isEmpty then none else (cEs rec es).map fun As => .bi b As
        | none => none) else none) else none
def cOmth (rec : PySem.Expr → Option E) (o : PySem.Expr) (m : Str) (apos : Pos) (es : List PySem.Expr) (pos : Pos) : Option E := if notCall0 o && ((apos.endLine == pos.line) && decide (es.length < 30)) then (match rec o, cEs rec es with
    | some O, some As => some (.omth m O As)
    | _, _ => none) else none
def cCallA (c : Cfg) (rec : PySem.Expr → Option E) (o : PySem.Expr) (m : Str) (apos : Pos) (es : List PySem.Expr) (pos : Pos) : Option E := match mtOf m with
  | some mt => if notCall0 o && ((apos.endLine == pos.line) && (decide (es.length < 30) && !es.isEmpty)) then (match rec o, cEs rec es with
    | some O, some As => some (.mth mt O As)
    | _, _ => none) else none
  | none => if c.obj then cOmth rec o m apos es pos else none
def cCall (c : Cfg) (rec : PySem.Expr → Option E) (pos : Pos) (es : List PySem.Expr) : PySem.Expr → Option E
  | .Name x _ => if c.calm then cCallN c rec x es else none
  | .Attribute o m apos => cCallA c rec o m apos es pos
  | _ => none
def cAttr (c : Cfg) (rec : PySem.Expr → Option E) (o : PySem.Expr) (f : Str) : Option E := if c.exc then (match o with
    | .Name n _ => (match slotOf c n with
      | some i => if c.xs = some i then some (.xfld i f) else none
      | none => none)
    | _ => none) else if notCall0 o then (rec o).map fun O => .fld O f else none
def cPart (rec : PySem.Expr → Option E) : Option PySem.Expr → Option E
  | none => some .non
  | some e => match rec e with
    | some A => if A.isNon then none else some A
    | none => none
/-- a dict of the top -/
def dcOf (c : Cfg) : PySem.Expr → Option Nat
  | .Name x _ => if isGl c x && (varOf c x).isNone then ixOf x c.dcs else none
  | _ => none
def cSub (c : Cfg) (rec : PySem.Expr → Option E) (a : PySem.Expr) : PySem.Expr → Option E
  | .Slice lo hi st _ => if st.isNone then (match rec a, cPart rec lo, cPart rec hi with
    | some A, some L, some H => some (.slc A L H)
    | _, _, _ => none) else none
  | b => if notSlice b then (match dcOf c a with
    | some j => (rec b).map fun B => .cdx j B
    | none => (match rec a, rec b with
    | some A, some B => some (.idx A B)
    | _, _ => none)) else none
def opOb : CmpOp → Bool
  | .Is => false
  | .IsNot => false
  | .In => false
  | .NotIn => false
  | _ => true
def cCmp (c : Cfg) (rec : PySem.Expr → Option E) (a : PySem.Expr) : List CmpOp → List PySem.Expr → Option E
  | [op], [b] => if notSet b then (match rec a, rec b with
    | some A, some B => some (if c.obj && opOb op then .ocmp op A B else .cmp op A B)
    | _, _ => none) else none
  | [o1, o2], [b, d] => if notSet d then (match rec a, rec b, rec d with
    | some A, some B, some D => some (.cmp2 o1 o2 A B D)
    | _, _, _ => none) else none
  | _, _ => none
def cBool (rec : PySem.Expr → Option E) (p : Pos) : BoolOp → List PySem.Expr → Option E
  | _, [a] => rec a
  | .And, a :: b :: r => (match rec a, rec (.BoolOp .And (b :: r) p) with
    | some A, some B => some (.and A B)
    | _, _ => none)
  | .Or, a :: b :: r => (match rec a, rec (.BoolOp .Or (b :: r) p) with
    | some A, some B => some (.or A B)
    | _, _ => none)
  | _, [] => none
/-- what is walked -/
def isRange : PySem.Expr → Option (Str × List PySem.Expr)
  | .Call (.Name x _) es [] _ => if x = "range" then some (x, es) else none
  | _ => none
def cIt (c : Cfg) (rec : PySem.Expr → Option E) (e : PySem.Expr) : Option E := if notSet e then (match isRange e with
  | some (x, es) => if c.blts.contains x && isGl c x then (match es with
    | [a] => (cEs rec [a]).map .rng
    | [a, b] => (cEs rec [a, b]).map .rng
    | _ => none) else none
  | none => rec e) else none
def isZip : PySem.Expr → Option (List PySem.Expr)
  | .Call (.Name x _) es [] _ => if x = "zip" then some es else none
  | _ => none
def isTupE : PySem.Expr → Bool
  | .Tuple _ _ _ => true
  | _ => false
/-- .. for a target -/
def cItT (c : Cfg) (rec : PySem.Expr → Option E) (tg e : PySem.Expr) : Option E := match isZip e with
  | some es => if isTupE tg && (c.blts.contains "zip" && isGl c "zip") then (match es with
    | [a, b] => (match cEs rec [a, b] with
      | some [A, B] => some (.zip A B)
      | _ => none)
    | _ => none) else none
  | none => cIt c rec e
/-- a target of names -/
def cTg (c : Cfg) : Nat → PySem.Expr → Option E
  | 0, _ => none
  | n + 1, e => match e with
    | .Name x _ => (match varOf c x with
      | some i => if decide (c.sc.names.lookup x = some .local) || (decide (c.sc.names.lookup x = some .cell) && c.fn x) then some (.var i) else none
      | none => none)
    | .Tuple ts _ _ => if ts.all plain then (mapO (cTg c n) ts).map .tup else none
    | _ => none
def ownOf (c : Cfg) (scope : Scope) : List (Str × Nat) := scope.names.filterMap fun y => match y.2 with
  | .local => (ixOf y.1 c.N).map fun i => (y.1, i)
  | .cell => (ixOf y.1 c.N).map fun i => (y.1, i)
  | _ => none
def Cfg.inner (c : Cfg) (scope : Scope) : Cfg := { c with sc := relS scope c.sc, fn := fun x => scope.names.lookup x == some .cell, stm := false }
def cIf (rec : PySem.Expr → Option E) : List PySem.Expr → Option E
  | [] => some (.bl true)
  | [t] => rec t
  | _ => none
def cComp (c : Cfg) (rec : Cfg → PySem.Expr → Option E) (elt : PySem.Expr) (scope : Scope) : List Comprehension → Option E
  | [⟨tg, it, ifs, 0⟩] => if blkC c.N c.sc scope (ownOf c scope) then (match cItT c (rec c) tg it, cTg (c.inner scope) 9 tg, cIf (rec (c.inner scope)) ifs, rec (c.inner scope) elt with
    | some IT, some TG, some CD, some A => if (tgSlots TG).all fun i => ((ownOf c scope).map (·.2)).contains i then some (.comp A TG IT CD ((ownOf c scope).map (·.2))) else none
    | _, _, _, _ => none) else none
  | [⟨tg, it, ifs, 0⟩, ⟨tg1, it1, ifs1, 0⟩] => if blkC c.N c.sc scope (ownOf c scope) then (match cItT c (rec c) tg it, cTg (c.inner scope) 9 tg, cIf (rec (c.inner scope)) ifs, rec (c.inner scope) elt with
    | some IT, some TG, some CD, some A => (match cItT (c.inner scope) (rec (c.inner scope)) tg1 it1, cTg (c.inner scope) 9 tg1, cIf (rec (c.inner scope)) ifs1 with
      | some IT1, some TG1, some CD1 => if ((tgSlots TG).all fun i => ((ownOf c scope).map (·.2)).contains i) && ((tgSlots TG1).all fun i => ((ownOf c scope).map (·.2)).contains i) then some (.comp2 A TG IT CD TG1 IT1 CD1 ((ownOf c scope).map (·.2)) (tgSlots TG1)) else none
      | _, _, _ => none)
    | _, _, _, _ => none) else none
  | _ => none
/-- .. whose items may raise -/
def cCompX (c : Cfg) (rec : Cfg → PySem.Expr → Option E) (elt : PySem.Expr) (scope : Scope) : List Comprehension → Option E
  | [⟨tg, it, ifs, 0⟩] => if blkC c.N c.sc scope (ownOf c scope) then (match cItT c (rec c) tg it, cTg (c.inner scope) 9 tg, cIf (rec (c.inner scope)) ifs, rec (c.inner scope) elt with
    | some IT, some TG, some CD, some A => if (tgSlots TG).all fun i => ((ownOf c scope).map (·.2)).contains i then some (.compX A TG IT CD ((ownOf c scope).map (·.2))) else none
    | _, _, _, _ => none) else none
  | _ => none
def cDict : List (Option PySem.Expr) → List PySem.Expr → Option E
  | [some (.Constant (.int i) _ _)], [.Constant (.int j) _ _] => some (.dic [(i, j)])
  | _, _ => none
/-- the parts of an f-string -/
def cFp (c : Cfg) (rec : PySem.Expr → Option E) : PySem.Expr → Option E
  | .Constant (.str s) _ _ => some (.str s)
  | .FormattedValue a n none _ => if c.obj && decide (n = -1) then (rec a).map .fmt else none
  | _ => none
def cJoin (c : Cfg) (rec : PySem.Expr → Option E) : List PySem.Expr → Option E
  | v1 :: v2 :: rest => (mapO (cFp c rec) (v1 :: v2 :: rest)).map .fstr
  | _ => none
def compE : Nat → Cfg → PySem.Expr → Option E
  | 0, _, _ => none
  | n + 1, c, e => match e with
    | .Constant v _ _ => cConst v
    | .Name x _ => cName c x
    | .BinOp a op b _ => (match compE n c a, compE n c b with
      | some A, some B => some (if c.obj then .obin op A B else .bin op A B)
      | _, _ => none)
    | .UnaryOp op a _ => (match op with
      | .USub => (compE n c a).map fun A => if c.obj then .oneg A else .neg A
      | .Not => (compE n c a).map .not
      | _ => none)
    | .Compare a ops bs _ => cCmp c (compE n c) a ops bs
    | .BoolOp op vs p => cBool (compE n c) p op vs
    | .IfExp t a b _ => (match compE n c t, compE n c a, compE n c b with
      | some C, some A, some B => some (.ite C A B)
      | _, _, _ => none)
    | .Tuple es _ _ => (cEs (compE n c) es).map .tup
    | .List es _ => (cEs (compE n c) es).map .lst
    | .Subscript a b _ => cSub c (compE n c) a b
    | .Attribute o f _ => cAttr c (compE n c) o f
    | .Call f es kw p => if kw.isEmpty then cCall c (compE n c) p es f else none
    | .JoinedStr vs _ => cJoin c (compE n c) vs
    | .ListComp elt gs scope _ => if c.calm && !c.exc then (if c.cx && c.stm then cCompX c (compE n) elt scope gs else cComp c (compE n) elt scope gs) else none
    | .Dict ks vs _ => cDict ks vs
    | _ => none
end Mch

/-! ## What the compiler makes of an expression says what the expression does -/
namespace Mch
open PySem PySem.Spec PyProof.Rows L2
/-- the context is as the compiler takes it -/
structure XOk (X : Cx) (g : Glob) (T : Tab) (W : WX) (md : Md) (c : Cfg) (k : Nat) : Prop where
  N : X.N = c.N
  nd : X.N.Nodup
  sc : X.env.scope = c.sc
  bk : c.sc.kind = .function
  fn : ∀ x, X.fn x = c.fn x
  K : g.K = X.K
  TP : T.P = g.P
  cP : c.P = g.P
  un : X.A.units + 64 < cLine
  kit : KitG g
  exc : ExcG g
  fld : ∀ d C Cl, g.cA d = some C → g.P.clss[d]? = some Cl → Cl.init.isSome = true → L2.Cls g.K C ∧ ∀ f ∈ Cl.fields, NoAttr g.K C f
  calm : c.calm = true → X.calm = true ∧ Takes X W ∧ Room (k + 4) X.A
  obj : c.obj = true → ObjX X g T W k
  nodash : ∀ j, methOf g.P j "-" = none
  mks : ∀ (j : Nat) (C : Addr) (Cl : ClsM), g.cA j = some C → g.P.clss[j]? = some Cl → Cl.exc = false → Cl.init.isSome = true → IniOk g T X.prog X.w X.K X.mg X.base k j
  xfs : ∀ (j : Nat) (C : Addr) (Cl : ClsM) (f : Str), g.cA j = some C → g.P.clss[j]? = some Cl → Cl.exc = true → Cl.fields = [f] → ExF g X.prog X.w X.K X.mg X.base k j
  ics : ∀ x i, c.ics.lookup x = some i → ∃ t, X.mg x = some (.int i t)
  dcs : ∀ x j, ixOf x c.dcs = some j → ∃ D kvs, X.mg x = some (.ref D) ∧ g.P.dcs[j]? = some kvs ∧ dcB X.K D kvs = true
  hid : c.stm = true → md ≠ .hid0
  top : c.stm = true → X.stack = X.env :: X.outer ∧ X.env.frame = some X.env.locals
  fnd : ∀ (j : Nat) (Cl : ClsM), g.P.clss[j]? = some Cl → Cl.init.isSome = true → Cl.fields.Nodup ∧ Cl.fields.length < 1000
  funs : ∀ (x : Str) f, x ≠ "" → ixOf x c.fns = some f → FunOk g T X.prog X.w X.K X.mg X.base k x f
  fadr : ∀ f a, g.fA f = some a → ∃ x, FunOk g T X.prog X.w X.K X.mg X.base k x f
  cls : ∀ x j, c.cls.lookup x = some j → ∃ C, g.cA j = some C ∧ X.mg x = some (.ref C)
  blt : ∀ x, x ∈ c.blts → X.mg x = none
  mdx : ∀ i, md.ex i = decide (c.xs = some i)
  sui : (c.exc = false ∧ ∀ j a c d, md ≠ .exc j a c d) ∨ (c.exc = true ∧ c.calm = false ∧ W = W0 ∧ ∃ i a cl d X0 oe pn, md = .exc i a cl d ∧ X = Cx.suite X0 a ((a, oe) :: pn) ∧ Zc cl d oe ∧ ∃ vs, oe.data = .fields vs)
section
variable {X : Cx} {g : Glob} {T : Tab} {W : WX} {md : Md} {c : Cfg} {k : Nat} {e a b : PySem.Expr} {A B : E} {pos : Pos}
structure EOk (X : Cx) (g : Glob) (T : Tab) (W : WX) (md : Md) (e : PySem.Expr) (A : E) : Prop where
  pe : PE X e (tE g T W md A)
  pt : PT X e (tT g T W md A)
  pw : ∀ op vs p, e = .BoolOp op vs p → PW X e (tT g T W md A)
theorem EOk.of (hK : g.K = X.K) (h : PE X e (tE g T W md A)) (he : ∀ whole, isTrue e X.env whole = (do let v ← whole; standAt e.pos; holding [v] (truthy v))) (hb : ∀ op vs p, e ≠ .BoolOp op vs p) : EOk X g T W md e A :=
  ⟨h, pt_tru hK h he, fun op vs p z => absurd z (hb op vs p)⟩
def RecOk (rec : PySem.Expr → Option E) (X : Cx) (g : Glob) (T : Tab) (W : WX) (md : Md) : Prop := ∀ e A, rec e = some A → EOk X g T W md e A
variable {rec : PySem.Expr → Option E}
theorem XOk.slot (h : XOk X g T W md c k) {x : Str} {i : Nat} (hs : slotOf c x = some i) : X.N[i]? = some x ∧ Vis X.env.scope x ∧ (x == ("__debug__" : Str)) = false ∧ (x == ("__classdict__" : Str)) = false := by
  unfold slotOf at hs
  split at hs
  · rename_i hc
    simp only [Bool.and_eq_true, Bool.not_eq_true'] at hc
    obtain ⟨h1, h2, h3⟩ := hc
    refine ⟨by rw [h.N]; exact ixOf_get hs, ?_, h2, h3⟩
    rw [h.sc]
    unfold isVis at h1
    split at h1
    · exact .inl (by assumption)
    · exact .inr (.inl (by assumption))
    · exact .inr (.inr (by assumption))
    · cases h1
  · cases hs
theorem XOk.var (h : XOk X g T W md c k) {x : Str} {i : Nat} (hs : varOf c x = some i) : slotOf c x = some i ∧ md.ex i = false := by
  unfold varOf at hs
  split at hs
  · rename_i j hj
    split at hs
    · cases hs
    · rename_i hne
      cases hs
      exact ⟨hj, by rw [h.mdx]; simpa using hne⟩
  · cases hs
theorem gl_ne {x : Str} (hs : isGl c x = true) : x ≠ "" := by
  unfold isGl at hs
  simp only [Bool.and_eq_true, decide_eq_true_eq, Bool.not_eq_true', beq_eq_false_iff_ne] at hs
  exact hs.2.2
theorem XOk.gl (h : XOk X g T W md c k) {x : Str} (hs : isGl c x = true) : Gl X x ∧ (x == ("__debug__" : Str)) = false := by
  unfold isGl at hs
  simp only [Bool.and_eq_true, decide_eq_true_eq, Bool.not_eq_true'] at hs
  refine ⟨?_, hs.2.1⟩
  show X.env.scope.names.lookup x = _
  rw [h.sc]
  exact hs.1
theorem const_ok (hK : g.K = X.K) {v : Const} {j : Nat} (h : cConst v = some A) : EOk X g T W md (.Constant v j pos) A := by
  cases v <;> simp only [cConst, Option.some.injEq, reduceCtorEq] at h
  · subst h; exact .of hK (se_const pe_non (v := .non) (fun _ _ => by simp only [RV]) fun _ _ => by simp only [evE]) (fun _ => rfl) fun _ _ _ z => by cases z
  · rename_i z; subst h; exact .of hK (se_const pe_bl (v := .bl z) (fun _ _ => by simp only [RV]) fun _ _ => by simp only [evE]) (fun _ => rfl) fun _ _ _ z => by cases z
  · rename_i z; subst h; exact .of hK (se_const pe_int (v := .int z) (fun _ _ => by simp only [RV]) fun _ _ => by simp only [evE]) (fun _ => rfl) fun _ _ _ z => by cases z
  · rename_i z; subst h; exact .of hK (se_const pe_str (v := .str z) (fun _ _ => by simp only [RV]) fun _ _ => by simp only [evE]) (fun _ => rfl) fun _ _ _ z => by cases z
theorem name_ok (h : XOk X g T W md c k) {x : Str} (hs : cName c x = some A) : EOk X g T W md (.Name x pos) A := by
  unfold cName at hs
  split at hs
  · rename_i i hi
    cases hs
    obtain ⟨h1, h2⟩ := h.var hi
    obtain ⟨h3, h4, h5, h6⟩ := h.slot h1
    exact .of h.K (se_var (pe_var h3 h4 h5 h6) h2) (fun _ => rfl) fun _ _ _ z => by cases z
  · split at hs
    · rename_i hg
      split at hs
      · rename_i i hi
        cases hs
        obtain ⟨t, h1⟩ := h.ics x i hi
        obtain ⟨g1, g2⟩ := h.gl hg
        exact .of h.K (se_const (pe_glob (v := .int i) g1 h1 ⟨t, rfl⟩ g2) (v := .int i) (fun _ _ => by simp only [RV]) fun _ _ => by simp only [evE]) (fun _ => rfl) fun _ _ _ z => by cases z
      obtain ⟨f, h1, rfl⟩ := Option.map_eq_some_iff.mp hs
      obtain ⟨a, fd, ps, dvs, D, h2, h3, _⟩ := (h.funs x f (gl_ne hg) h1).ex
      obtain ⟨g1, g2⟩ := h.gl hg
      exact .of h.K (se_const (pe_glob (v := .ref a) g1 h3 rfl g2) (v := .fn f) (fun _ _ => by simp only [RV]; exact ⟨a, rfl, h2⟩) fun _ _ => by simp only [evE]) (fun _ => rfl) fun _ _ _ z => by cases z
    · cases hs
theorem mapO_ok (hr : RecOk rec X g T W md) : ∀ {es : List PySem.Expr} {As : List E}, es.all plain = true → mapO rec es = some As → PA X es (tEs g T W md As) ∧ es.length = As.length
  | [], As, _, h => by
    simp only [mapO, Option.some.injEq] at h
    subst h
    exact ⟨sa_nil, rfl⟩
  | e :: es, As, hp, h => by
    rw [List.all_cons, Bool.and_eq_true] at hp
    simp only [mapO] at h
    split at h
    · rename_i A As' h1 h2
      cases h
      obtain ⟨q1, q2⟩ := mapO_ok hr hp.2 h2
      exact ⟨sa_cons hp.1 (hr e A h1).pe q1, by simp [q2]⟩
    · cases h
theorem es_ok (hr : RecOk rec X g T W md) {es : List PySem.Expr} {As : List E} (h : cEs rec es = some As) : es.all plain = true ∧ PA X es (tEs g T W md As) ∧ es.length = As.length := by
  unfold cEs at h
  split at h
  · rename_i hp
    exact ⟨hp, mapO_ok hr hp h⟩
  · cases h
theorem ty_ok (h : XOk X g T W md c k) {t : TyR} {e : PySem.Expr} (hs : cTy c e = some t) : plain e = true ∧ PCl X g e t := by
  unfold cTy at hs
  split at hs
  · rename_i x p
    refine ⟨rfl, ?_⟩
    split at hs
    · rename_i hg
      obtain ⟨g1, g2⟩ := h.gl hg
      split at hs
      · rename_i j hj
        cases hs
        obtain ⟨C, h1, h2⟩ := h.cls x j hj
        exact pcl_cls h1 g1 h2 g2
      · split at hs
        · rename_i hb
          have hb : x ∈ c.blts := by simpa using hb
          have := List.find?_some hs
          exact pcl_ty (by simpa using this) g1 (h.blt x hb)
        · cases hs
    · cases hs
  · cases hs
theorem tys_ok (h : XOk X g T W md c k) : ∀ {es : List PySem.Expr} {ts : List TyR}, mapO (cTy c) es = some ts → PCls X g es ts ∧ es.length = ts.length
  | [], ts, hs => by
    simp only [mapO, Option.some.injEq] at hs
    subst hs
    exact ⟨pcls_nil, rfl⟩
  | e :: es, ts, hs => by
    simp only [mapO] at hs
    split at hs
    · rename_i t ts' h1 h2
      cases hs
      obtain ⟨q1, q2⟩ := tys_ok h h2
      obtain ⟨q3, q4⟩ := ty_ok h h1
      exact ⟨pcls_cons q3 q4 q1, by simp [q2]⟩
    · cases hs
theorem isin_ok (h : XOk X g T W md c k) (hc : X.calm = true) {t : PySem.Expr} {R : E} {p : Pos} (hg : isGl c "isinstance" = true) (hm : ("isinstance" : Str) ∈ c.blts) (hp : plain a = true) (ha : EOk X g T W md a A) (hs : cIsin c A t = some R) : EOk X g T W md (.Call (.Name "isinstance" p) [a, t] [] pos) R := by
  obtain ⟨g1, g2⟩ := h.gl hg
  have m1 := h.blt _ hm
  unfold cIsin at hs
  split at hs
  · obtain ⟨ty, h1, rfl⟩ := Option.map_eq_some_iff.mp hs
    obtain ⟨q1, q2⟩ := ty_ok h h1
    exact .of h.K (se_isin h.kit h.TP h.K g1 m1 hp q1 ha.pe q2) (fun _ => rfl) fun _ _ _ z => by cases z
  · split at hs
    · rename_i es j p' hl
      simp only [Bool.and_eq_true, decide_eq_true_eq, Bool.not_eq_true', List.isEmpty_eq_false_iff] at hl
      obtain ⟨ts, h1, rfl⟩ := Option.map_eq_some_iff.mp hs
      obtain ⟨q1, q2⟩ := tys_ok h h1
      refine .of h.K (se_isinT h.kit h.TP h.K g1 m1 hp hl.1 (fun z => hl.2 ?_) ha.pe q1) (fun _ => rfl) fun _ _ _ z => by cases z
      rw [z] at q2
      exact List.length_eq_zero_iff.mp q2
    · cases hs
  · cases hs
theorem callN_ok (h : XOk X g T W md c k) (hr : RecOk rec X g T W md) (hc : c.calm = true) {x : Str} {p : Pos} {es : List PySem.Expr} (hs : cCallN c rec x es = some A) : EOk X g T W md (.Call (.Name x p) es [] pos) A := by
  obtain ⟨c1, c2, c4⟩ := h.calm hc
  have c3 : Room k X.A := c4.mono (by omega)
  unfold cCallN at hs
  split at hs
  · rename_i i hi
    obtain ⟨As, h0, rfl⟩ := Option.map_eq_some_iff.mp hs
    obtain ⟨q1, q2, q3⟩ := es_ok hr h0
    obtain ⟨h1, h2⟩ := h.var hi
    obtain ⟨h3, h4, h5, h6⟩ := h.slot h1
    exact .of h.K (se_callv h.fadr c3 c2 h3 h4 h2 h5 h6 q1 q3 q2) (fun _ => rfl) fun _ _ _ z => by cases z
  · split at hs
    · rename_i hg
      obtain ⟨g1, g2⟩ := h.gl hg
      split at hs
      · rename_i f hf
        obtain ⟨As, h0, rfl⟩ := Option.map_eq_some_iff.mp hs
        obtain ⟨q1, q2, q3⟩ := es_ok hr h0
        exact .of h.K (se_call (h.funs x f (gl_ne hg) hf) c3 c2 g1 g2 q1 q3 q2) (fun _ => rfl) fun _ _ _ z => by cases z
      · split at hs
        · rename_i j hj
          obtain ⟨As, h0, rfl⟩ := Option.map_eq_some_iff.mp hs
          obtain ⟨q1, q2, q3⟩ := es_ok hr h0
          unfold mkOf at hj
          split at hj
          · split at hj
            · rename_i j' hl
              split at hj
              · rename_i Cl hC
                split at hj
                · rename_i hi
                  cases hj
                  simp only [Bool.and_eq_true, Bool.not_eq_true'] at hi
                  obtain ⟨C, k1, k2⟩ := h.cls x _ hl
                  rw [h.cP] at hC
                  exact .of h.K (se_mk (h.mks _ C Cl k1 hC hi.1 hi.2) h.TP k1 (c4.mono (by omega)) c2 g1 k2 g2 q1 q3 q2) (fun _ => rfl) fun _ _ _ z => by cases z
                · cases hj
              · cases hj
            · cases hj
          · cases hj
        split at hs
        · rename_i hob
          rw [Bool.and_eq_true] at hob
          have hxs : x = "str" := by simpa using hob.2
          subst hxs
          split at hs
          · rename_i hb
            have hb : ("str" : Str) ∈ c.blts := by simpa using hb
            unfold cStr at hs
            split at hs
            · rename_i a
              split at hs
              · rename_i hp
                obtain ⟨A', h1, rfl⟩ := Option.map_eq_some_iff.mp hs
                exact .of h.K (se_ostr (h.obj (by unfold Cfg.obj; rw [hob.1, hc]; rfl)) c1 g1 (h.blt _ hb) hp (hr a A' h1).pe) (fun _ => rfl) fun _ _ _ z => by cases z
              · cases hs
            · cases hs
          · cases hs
        split at hs
        · rename_i hb
          have hb : x ∈ c.blts := by simpa using hb
          split at hs
          · rename_i hx
            subst hx
            split at hs
            · rename_i a t
              split at hs
              · rename_i hp
                obtain ⟨A', h1, h2⟩ := Option.bind_eq_some_iff.mp hs
                exact isin_ok h c1 hg hb hp (hr a A' h1) h2
              · cases hs
            · cases hs
          · split at hs
            · rename_i b hbi
              have hbn : biName b = x := by simpa using List.find?_some hbi
              split at hs
              · cases hs
              · rename_i hne
                obtain ⟨As, h0, rfl⟩ := Option.map_eq_some_iff.mp hs
                obtain ⟨q1, q2, q3⟩ := es_ok hr h0
                subst hbn
                cases es with
                | nil => exact absurd rfl hne
                | cons e es => exact .of h.K (se_bi c1 h.K g1 (h.blt _ hb) q1 q2) (fun _ => rfl) fun _ _ _ z => by cases z
            · cases hs
        · cases hs
    · cases hs
theorem callA_ok (h : XOk X g T W md c k) (hr : RecOk rec X g T W md) {o : PySem.Expr} {m : Str} {apos : Pos} {es : List PySem.Expr} (hs : cCallA c rec o m apos es pos = some A) : EOk X g T W md (.Call (.Attribute o m apos) es [] pos) A := by
  unfold cCallA at hs
  split at hs
  · rename_i mt hm
    have hmn : mtName mt = m := by simpa using List.find?_some hm
    subst hmn
    split at hs
    · rename_i hl
      simp only [Bool.and_eq_true, decide_eq_true_eq, Bool.not_eq_true', List.isEmpty_eq_false_iff] at hl
      obtain ⟨l1, l2, l3, l4⟩ := hl
      split at hs
      · rename_i O As h1 h2
        cases hs
        obtain ⟨q1, q2, q3⟩ := es_ok hr h2
        cases es with
        | nil => exact absurd rfl l4
        | cons e es => exact .of h.K (se_mth h.K (hr o O h1).pe l1 l2 q1 l3 q2) (fun _ => rfl) fun _ _ _ z => by cases z
      · cases hs
    · cases hs
  · split at hs
    · rename_i hob
      unfold cOmth at hs
      split at hs
      · rename_i hl
        simp only [Bool.and_eq_true, decide_eq_true_eq] at hl
        obtain ⟨l1, l2, l3⟩ := hl
        split at hs
        · rename_i O As h1 h2
          cases hs
          obtain ⟨q1, q2, q3⟩ := es_ok hr h2
          exact .of h.K (se_omth (h.obj hob) l1 l2 q1 l3 q3 (hr o O h1).pe q2) (fun _ => rfl) fun _ _ _ z => by cases z
        · cases hs
      · cases hs
    · cases hs
theorem call_ok (h : XOk X g T W md c k) (hr : RecOk rec X g T W md) {f : PySem.Expr} {es : List PySem.Expr} (hs : cCall c rec pos es f = some A) : EOk X g T W md (.Call f es [] pos) A := by
  unfold cCall at hs
  split at hs
  · split at hs
    · rename_i hc
      exact callN_ok h hr hc hs
    · cases hs
  · exact callA_ok h hr hs
  · cases hs
theorem attr_ok (h : XOk X g T W md c k) (hr : RecOk rec X g T W md) {o : PySem.Expr} {f : Str} (hs : cAttr c rec o f = some A) : EOk X g T W md (.Attribute o f pos) A := by
  unfold cAttr at hs
  split at hs
  · rename_i hx
    split at hs
    · rename_i n p
      split at hs
      · rename_i i hi
        split at hs
        · rename_i hxs
          cases hs
          rcases h.sui with ⟨h1, _⟩ | ⟨_, _, rfl, i', a, cl, d, X0, oe, pn, rfl, rfl, hz, hv⟩
          · rw [h1] at hx
            cases hx
          · have hii : i' = i := by
              have := h.mdx i
              rw [hxs] at this
              simp [Md.ex] at this
              exact this.symm
            subst hii
            obtain ⟨h3, h4, h5, h6⟩ := h.slot hi
            refine .of h.K (sx_fld h.exc h.TP h.K hz hv (pe_var (X := Cx.suite X0 a ((a, oe) :: pn)) h3 h4 h5 h6)) (fun _ => rfl) fun _ _ _ z => by cases z
        · cases hs
      · cases hs
    · cases hs
  · split at hs
    · rename_i hb
      obtain ⟨O, h1, rfl⟩ := Option.map_eq_some_iff.mp hs
      exact .of h.K (se_fld h.fld h.TP h.K (hr o O h1).pe hb) (fun _ => rfl) fun _ _ _ z => by cases z
    · cases hs
theorem part_ok (hr : RecOk rec X g T W md) {o : Option PySem.Expr} (hs : cPart rec o = some A) : PO X o (tP g T W md A) := by
  unfold cPart at hs
  split at hs
  · cases hs
    exact po_no
  · split at hs
    · rename_i e' A' h1
      split at hs
      · cases hs
      · rename_i hn
        cases hs
        exact po_so (by simpa using hn) (hr _ _ h1).pe
    · cases hs
theorem sub_ok (h : XOk X g T W md c k) (hr : RecOk rec X g T W md) (hs : cSub c rec a b = some A) : EOk X g T W md (.Subscript a b pos) A := by
  have hK := h.K
  unfold cSub at hs
  split at hs
  · rename_i lo hi st p
    split at hs
    · rename_i hst
      have e0 : st = none := by simpa using hst
      subst e0
      split at hs
      · rename_i A' L H h1 h2 h3
        cases hs
        exact .of hK (se_slc hK (hr _ _ h1).pe (part_ok hr h2) (part_ok hr h3)) (fun _ => rfl) fun _ _ _ z => by cases z
      · cases hs
    · cases hs
  · split at hs
    · rename_i hn
      split at hs
      · rename_i j hj
        obtain ⟨B', h1, rfl⟩ := Option.map_eq_some_iff.mp hs
        unfold dcOf at hj
        split at hj
        · rename_i x p
          split at hj
          · rename_i hg
            rw [Bool.and_eq_true] at hg
            obtain ⟨g1, g2⟩ := h.gl hg.1
            obtain ⟨D, kvs, d1, d2, d3⟩ := h.dcs x j hj
            exact .of hK (se_cdx h.TP g1 d1 g2 d3 d2 hn (hr _ _ h1).pe) (fun _ => rfl) fun _ _ _ z => by cases z
          · cases hj
        · cases hj
      split at hs
      · rename_i A' B' h1 h2
        cases hs
        exact .of hK (se_idx hK hn (hr _ _ h1).pe (hr _ _ h2).pe) (fun _ => rfl) fun _ _ _ z => by cases z
      · cases hs
    · cases hs
theorem cmp_okE (h : XOk X g T W md c k) (hr : RecOk rec X g T W md) {ops : List CmpOp} {bs : List PySem.Expr} (hs : cCmp c rec a ops bs = some A) : EOk X g T W md (.Compare a ops bs pos) A := by
  unfold cCmp at hs
  split at hs
  · split at hs
    · rename_i hn
      split at hs
      · rename_i A' B' h1 h2
        cases hs
        split
        · rename_i hob
          rw [Bool.and_eq_true] at hob
          exact ⟨se_ocmp (h.obj hob.1) h.un hn (hr _ _ h1).pe (hr _ _ h2).pe, st_ocmp (h.obj hob.1) h.un hn (hr _ _ h1).pe (hr _ _ h2).pe, fun _ _ _ z => by cases z⟩
        exact ⟨se_cmp h.K h.un hn (hr _ _ h1).pe (hr _ _ h2).pe, st_cmp h.K h.un hn (hr _ _ h1).pe (hr _ _ h2).pe, fun _ _ _ z => by cases z⟩
      · cases hs
    · cases hs
  · split at hs
    · rename_i hn
      split at hs
      · rename_i A' B' D' h1 h2 h3
        cases hs
        exact ⟨se_cmp2 h.K h.un hn (hr _ _ h1).pe (hr _ _ h2).pe (hr _ _ h3).pe, st_cmp2 h.K h.un hn (hr _ _ h1).pe (hr _ _ h2).pe (hr _ _ h3).pe, fun _ _ _ z => by cases z⟩
      · cases hs
    · cases hs
  · cases hs
theorem bool1_pe {op : BoolOp} {t : TE} (h : PE X a t) : PE X (.BoolOp op [a] pos) t := by
  refine ⟨fun pins s σ H Q I hh => ?_⟩
  have := h.run pins s σ H Q I hh
  show wpAny _ _ (boolOp pos op (evalEach [a] X.env)) _ _ _
  exact this
theorem bool_ok (hK : g.K = X.K) (hr : RecOk rec X g T W md) {op : BoolOp} {vs : List PySem.Expr} (hs : cBool rec pos op vs = some A) : EOk X g T W md (.BoolOp op vs pos) A := by
  unfold cBool at hs
  split at hs
  · have q := hr _ _ hs
    cases op
    · exact ⟨bool1_pe q.pe, (pw_and1 q.pt).pt, fun _ _ _ _ => pw_and1 q.pt⟩
    · exact ⟨bool1_pe q.pe, (pw_or1 q.pt).pt, fun _ _ _ _ => pw_or1 q.pt⟩
  · split at hs
    · rename_i A' B' h1 h2
      cases hs
      have q1 := hr _ _ h1
      have q2 := hr _ _ h2
      have w := sw_and (pos := pos) q1.pt (q2.pw _ _ _ rfl)
      exact ⟨se_and hK q1.pe q2.pe, w.pt, fun _ _ _ _ => w⟩
    · cases hs
  · split at hs
    · rename_i A' B' h1 h2
      cases hs
      have q1 := hr _ _ h1
      have q2 := hr _ _ h2
      have w := sw_or (pos := pos) q1.pt (q2.pw _ _ _ rfl)
      exact ⟨se_or hK q1.pe q2.pe, w.pt, fun _ _ _ _ => w⟩
    · cases hs
  · cases hs
/-! ### f-strings -/
theorem fps_ok (h : XOk X g T W md c k) (hr : RecOk rec X g T W md) : ∀ {es : List PySem.Expr} {As : List E}, mapO (cFp c rec) es = some As → PJ X es (As.map fun A => tE g T W md A)
  | [], As, hs => by
    simp only [mapO, Option.some.injEq] at hs
    subst hs
    exact .nil
  | e :: es, As, hs => by
    simp only [mapO] at hs
    split at hs
    · rename_i A As' h1 h2
      cases hs
      refine .cons ?_ (fps_ok h hr h2)
      unfold cFp at h1
      split at h1
      · rename_i z j p
        cases h1
        exact se_const (pe_str (x := z)) (v := .str z) (fun _ _ => by simp only [RV]) fun _ _ => by simp only [evE]
      · rename_i a n p
        split at h1
        · rename_i hn
          rw [Bool.and_eq_true, decide_eq_true_eq] at hn
          obtain ⟨ho, rfl⟩ := hn
          obtain ⟨A', h3, rfl⟩ := Option.map_eq_some_iff.mp h1
          exact se_fmt (h.obj ho) (hr _ _ h3).pe
        · cases h1
      · cases h1
    · cases hs
theorem join_ok (h : XOk X g T W md c k) (hr : RecOk rec X g T W md) {es : List PySem.Expr} (hs : cJoin c rec es = some A) : EOk X g T W md (.JoinedStr es pos) A := by
  unfold cJoin at hs
  split at hs
  · obtain ⟨As, h1, rfl⟩ := Option.map_eq_some_iff.mp hs
    exact .of h.K (se_fstr (fps_ok h hr h1)) (fun _ => rfl) fun _ _ _ z => by cases z
  · cases hs
theorem st_ite {t : PySem.Expr} {C : E} (hc : PT X t (tT g T W md C)) (ha : PT X a (tT g T W md A)) (hb : PT X b (tT g T W md B)) : PT X (.IfExp t a b pos) (tT g T W md (.ite C A B)) := by
  refine ⟨fun pins s σ H Q I h => ?_⟩
  obtain ⟨φ, G, μ, σm, sb, r, e, h⟩ := h
  simp only [evE] at h
  show wpAny _ _ (do if ← isTrue t X.env (eval t X.env) then isTrue a X.env (eval a X.env) else isTrue b X.env (eval b X.env)) _ _ _
  refine wpAny_bind (thn (hc.run pins s σ H (fun kb H1 => if kb = true then tT g T W md A σ H1 Q else tT g T W md B σ H1 Q) I ⟨φ, G, μ, σm, sb, r, e, ?_⟩) fun kb s1 hk => ?_)
  · cases e0 : evE T C σm μ with
    | ok v μ1 =>
      rw [e0] at h
      simp only [R.bind] at h ⊢
      unfold truR at h ⊢
      cases e1 : truM μ1 v with
      | none => rw [e1] at h; exact h.elim
      | some kb =>
        rw [e1] at h
        intro φ1 G1 H1 x1 r1
        cases kb with
        | true => exact ⟨φ1, G1, μ1, σm, x1.sub, r1, e.ext x1, Good.ext (r := (evE T A σm μ1).bind truR) h x1⟩
        | false => exact ⟨φ1, G1, μ1, σm, x1.sub, r1, e.ext x1, Good.ext (r := (evE T B σm μ1).bind truR) h x1⟩
    | exc x μ1 => rw [e0] at h; exact h
    | no => rw [e0] at h; exact h
  · obtain ⟨H1, I1, q1⟩ := hk
    cases kb with
    | true => exact ha.run pins s1 σ H1 Q I1 q1
    | false => exact hb.run pins s1 σ H1 Q I1 q1
end
end Mch

/-! ## The compiler: targets, walks, comprehensions; all expressions -/
namespace Mch
open PySem PySem.Spec PyProof.Rows L2
section
variable {X : Cx} {g : Glob} {T : Tab} {W : WX} {md : Md} {c : Cfg} {k : Nat} {e a b : PySem.Expr} {A B : E} {pos : Pos} {rec : PySem.Expr → Option E}
theorem loc_ok (h : XOk X g T W md c k) {x : Str} (hs : (decide (c.sc.names.lookup x = some .local) || (decide (c.sc.names.lookup x = some .cell) && c.fn x)) = true) : L2.Loc X.env.scope x ∧ (X.fn x = true ∨ X.env.scope.names.lookup x = some .local) := by
  simp only [Bool.or_eq_true, decide_eq_true_eq, Bool.and_eq_true] at hs
  unfold L2.Loc
  rw [h.sc, h.fn]
  rcases hs with hs | ⟨h1, h2⟩
  · exact ⟨.inl hs, .inr hs⟩
  · exact ⟨.inr h1, .inl h2⟩
theorem tg_ok (h : XOk X g T W md c k) (hc : X.calm = true) : ∀ {n : Nat} {e : PySem.Expr} {A : E}, cTg c n e = some A → PG X e (gB g md A) ∧ ∀ i ∈ tgSlots A, md.ex i = false
  | 0, e, A, hs => by simp only [cTg] at hs; cases hs
  | n + 1, e, A, hs => by
    simp only [cTg] at hs
    split at hs
    · split at hs
      · rename_i i hi
        split at hs
        · rename_i hl
          cases hs
          obtain ⟨h1, h2⟩ := h.var hi
          obtain ⟨h3, h4, h5, h6⟩ := h.slot h1
          obtain ⟨l1, l2⟩ := loc_ok h hl
          exact ⟨sg_var h.nd h3 l1 l2, fun j hj => by simp only [tgSlots, List.mem_singleton] at hj; rw [hj]; exact h2⟩
        · cases hs
      · cases hs
    · split at hs
      · rename_i ts j p hp
        obtain ⟨As, h1, rfl⟩ := Option.map_eq_some_iff.mp hs
        have q : ∀ {ts : List PySem.Expr} {As : List E}, ts.all plain = true → mapO (cTg c n) ts = some As → PGs X ts (gBs g md As) ∧ ts.length = As.length ∧ ∀ i ∈ tgSlotss As, md.ex i = false := by
          intro ts
          induction ts with
          | nil =>
            intro As _ hm
            simp only [mapO, Option.some.injEq] at hm
            subst hm
            exact ⟨sgs_nil, rfl, fun i hi => by simp [tgSlotss] at hi⟩
          | cons t ts ih =>
            intro As hp hm
            rw [List.all_cons, Bool.and_eq_true] at hp
            simp only [mapO] at hm
            split at hm
            · rename_i A As' e1 e2
              cases hm
              obtain ⟨i1, i2, i3⟩ := ih hp.2 e2
              obtain ⟨j1, j2⟩ := tg_ok h hc e1
              refine ⟨sgs_cons hp.1 j1 i1, by simp [i2], fun i hi => ?_⟩
              simp only [tgSlotss, List.mem_append] at hi
              exact hi.elim (j2 i) (i3 i)
            · cases hm
        obtain ⟨q1, q2, q3⟩ := q hp h1
        exact ⟨sg_tup hc h.K hp q2 q1, fun i hi => q3 i (by simpa only [tgSlots] using hi)⟩
      · cases hs
    · cases hs
theorem range_of {x : Str} {es : List PySem.Expr} (h : isRange e = some (x, es)) : ∃ p p', x = "range" ∧ e = .Call (.Name "range" p) es [] p' := by
  unfold isRange at h
  split at h
  · split at h
    · rename_i hx
      cases h
      subst hx
      exact ⟨_, _, rfl, rfl⟩
    · cases h
  · cases h
theorem it_ok (h : XOk X g T W md c k) (hr : RecOk rec X g T W md) {tg : PySem.Expr} (hs : cIt c rec e = some A) : PI X tg e (tI g T W md A) ∧ notSet e = true := by
  unfold cIt at hs
  split at hs
  · rename_i hn
    refine ⟨?_, hn⟩
    split at hs
    · rename_i x es hrg
      obtain ⟨p, p', rfl, rfl⟩ := range_of hrg
      split at hs
      · rename_i hb
        simp only [Bool.and_eq_true, List.contains_eq_mem, decide_eq_true_eq] at hb
        obtain ⟨g1, g2⟩ := h.gl hb.2
        have m1 := h.blt _ hb.1
        split at hs
        · obtain ⟨As, h0, rfl⟩ := Option.map_eq_some_iff.mp hs
          obtain ⟨q1, q2, q3⟩ := es_ok hr h0
          match As, q3 with
          | [B], _ =>
            simp only [List.all_cons, List.all_nil, Bool.and_true] at q1
            exact si_rng1 g1 m1 q1 q2
        · obtain ⟨As, h0, rfl⟩ := Option.map_eq_some_iff.mp hs
          obtain ⟨q1, q2, q3⟩ := es_ok hr h0
          match As, q3 with
          | [B, C], _ =>
            simp only [List.all_cons, List.all_nil, Bool.and_true, Bool.and_eq_true] at q1
            exact si_rng2 g1 m1 q1.1 q1.2 q2
        · cases hs
      · cases hs
    · exact si_val h.K (hr _ _ hs).pe
  · cases hs
theorem it_okT (h : XOk X g T W md c k) (hr : RecOk rec X g T W md) {tg : PySem.Expr} (hs : cItT c rec tg e = some A) : PI X tg e (tI g T W md A) ∧ notSet e = true := by
  unfold cItT at hs
  split at hs
  · rename_i es hz
    unfold isZip at hz
    split at hz
    · rename_i x p es' p'
      split at hz
      · rename_i hx
        subst hx
        cases hz
        refine ⟨?_, rfl⟩
        split at hs
        · rename_i hb
          simp only [Bool.and_eq_true, List.contains_eq_mem, decide_eq_true_eq] at hb
          obtain ⟨g1, g2⟩ := h.gl hb.2.2
          have m1 := h.blt _ hb.2.1
          split at hs
          · split at hs
            · rename_i B C h0
              cases hs
              obtain ⟨q1, q2, q3⟩ := es_ok hr h0
              simp only [List.all_cons, List.all_nil, Bool.and_true, Bool.and_eq_true] at q1
              have ht := hb.1
              cases tg <;> simp only [isTupE, Bool.false_eq_true] at ht
              exact si_zip h.K g1 m1 q1.1 q1.2 q2
            · cases hs
          · cases hs
        · cases hs
      · cases hz
    · cases hz
  · exact it_ok h hr hs
theorem blk_ex (hmd : ∀ j a c d, md ≠ .exc j a c d) (i : Nat) : md.blk.ex i = md.ex i := by
  cases md with
  | exc j a c d => exact absurd rfl (hmd j a c d)
  | _ => rfl
theorem blk_ne (md : Md) : ∀ j a c d, md.blk ≠ .exc j a c d := by
  cases md <;> intro _ _ _ _ z <;> cases z
/-- within a comprehension -/
theorem XOk.inner (h : XOk X g T W md c k) (he : c.exc = false) (hc : c.calm = true) {scope : Scope} (hb : blkC c.N c.sc scope (ownOf c scope) = true) (s : Shared) (H : Hp) (C : Addr) (cl : List (Str × Addr)) (fp : List Addr) :
    XOk (X.blk s H scope (compEnvC scope cl C X.env) fp) g T W0 md.blk (c.inner scope) k := by
  obtain ⟨c1, c2, c3⟩ := h.calm hc
  have hmd : ∀ j a c d, md ≠ .exc j a c d := by
    rcases h.sui with ⟨_, z⟩ | ⟨z, _⟩
    · exact z
    · rw [he] at z; cases z
  have hk := (blkOk_by hb).kind
  exact ⟨h.N, h.nd, by show relS scope X.env.scope = relS scope c.sc; rw [h.sc], hk, fun x => rfl, h.K, h.TP, h.cP, h.un, h.kit, h.exc, h.fld, fun _ => ⟨c1, takes0, c3⟩, fun z => (let o := h.obj z; ⟨o.K, o.TP, o.o, o.kit, o.met, o.hr4, takes0⟩), h.nodash, h.mks, h.xfs, h.ics, h.dcs, (fun z => by cases z), (fun z => by cases z), h.fnd, h.funs, h.fadr, h.cls, h.blt, fun i => by rw [blk_ex hmd]; exact h.mdx i, .inl ⟨he, blk_ne md⟩⟩
theorem XOk.innerX (h : XOk X g T W md c k) (he : c.exc = false) (hc : c.calm = true) {scope : Scope} (hb : blkC c.N c.sc scope (ownOf c scope) = true) (s : Shared) (H : Hp) (C : Addr) (cl : List (Str × Addr)) (fp : List Addr) (xe : Value → Shared → Prop) (W' : WX) (tk : Takes (blkX X s H scope (compEnvC scope cl C X.env) fp xe) W') :
    XOk (blkX X s H scope (compEnvC scope cl C X.env) fp xe) g T W' md.blk (c.inner scope) k := by
  obtain ⟨c1, c2, c3⟩ := h.calm hc
  have hmd : ∀ j a c d, md ≠ .exc j a c d := by
    rcases h.sui with ⟨_, z⟩ | ⟨z, _⟩
    · exact z
    · rw [he] at z; cases z
  have hk := (blkOk_by hb).kind
  exact ⟨h.N, h.nd, by show relS scope X.env.scope = relS scope c.sc; rw [h.sc], hk, fun x => rfl, h.K, h.TP, h.cP, h.un, h.kit, h.exc, h.fld, fun _ => ⟨c1, tk, c3⟩, fun z => (let o := h.obj z; ⟨o.K, o.TP, o.o, o.kit, o.met, o.hr4, tk⟩), h.nodash, h.mks, h.xfs, h.ics, h.dcs, (fun z => by cases z), (fun z => by cases z), h.fnd, h.funs, h.fadr, h.cls, h.blt, fun i => by rw [blk_ex hmd]; exact h.mdx i, .inl ⟨he, blk_ne md⟩⟩
theorem if_ok (hr : RecOk rec X g T W md) {ifs : List PySem.Expr} (hs : cIf rec ifs = some A) : PTs X ifs (tT g T W md A) := by
  unfold cIf at hs
  split at hs
  · cases hs
    refine ⟨fun pins s σ H Q I h => pts_nil.run pins s σ H Q I ?_⟩
    obtain ⟨φ, G, μ, σm, sb, r, e, h⟩ := h
    simp only [evE] at h
    exact Good.here (a := true) (μ := μ) h sb r
  · exact pts_one (hr _ _ hs).pt
  · cases hs
theorem comp_ok {recC : Cfg → PySem.Expr → Option E} (h : XOk X g T W md c k) (he : c.exc = false) (hc : c.calm = true) (hr : ∀ X W md c, XOk X g T W md c k → RecOk (recC c) X g T W md) {elt : PySem.Expr} {scope : Scope} {gs : List Comprehension} (hs : cComp c recC elt scope gs = some A) :
    PE X (.ListComp elt gs scope pos) (tE g T W md A) ∧ (∀ i y py spos, X.N[i]? = some y → X.env.scope.names.lookup y = some .local → md.ex i = false → swapsWith (.ListComp elt gs scope pos) (some (.Name y py)) spos.line X.env = pure true →
      PS X (.Assign [.Name y py] (.ListComp elt gs scope pos) spos) (tR g W md (evS T (.asg (.var i) A)))) := by
  obtain ⟨c1, c2, c3⟩ := h.calm hc
  have hmd : ∀ j a c d, md ≠ .exc j a c d := by
    rcases h.sui with ⟨_, z⟩ | ⟨z, _⟩
    · exact z
    · rw [he] at z; cases z
  have rX := hr _ _ _ _ h
  unfold cComp at hs
  split at hs
  · split at hs
    · rename_i hb
      have hin := fun s H C cl fp => h.inner he hc hb s H C cl fp
      have bo : BlkOk X.N X.env.scope scope (ownOf c scope) := by rw [h.N, h.sc]; exact blkOk_by hb
      split at hs
      · rename_i IT TG CD A' e1 e2 e3 e4
        split at hs
        · rename_i hsl
          cases hs
          have hsl : ∀ i ∈ tgSlots TG, i ∈ (ownOf c scope).map (·.2) := by
            rw [List.all_eq_true] at hsl
            intro i hi
            simpa using hsl i hi
          have i2 := (it_okT h rX e1).2
          have G := fun s H C cl fp => (tg_ok (hin s H C cl fp) c1 e2).1
          have F := fun s H C cl fp => if_ok (hr _ _ _ _ (hin s H C cl fp)) e3
          have L := fun s H C cl fp => (hr _ _ _ _ (hin s H C cl fp) _ _ e4).pe
          exact ⟨se_comp c1 h.nd hmd (it_okT h rX e1).1 bo hsl G F L i2, fun i y py spos y1 y2 y3 y4 => sp_setc c1 h.nd hmd y1 y2 y3 y4 (it_okT h rX e1).1 bo hsl G F L i2⟩
        · cases hs
      · cases hs
    · cases hs
  · split at hs
    · rename_i hb
      have hin := fun s H C cl fp => h.inner he hc hb s H C cl fp
      have bo : BlkOk X.N X.env.scope scope (ownOf c scope) := by rw [h.N, h.sc]; exact blkOk_by hb
      split at hs
      · rename_i IT TG CD A' e1 e2 e3 e4
        split at hs
        · rename_i IT1 TG1 CD1 e5 e6 e7
          split at hs
          · rename_i hsl
            cases hs
            rw [Bool.and_eq_true, List.all_eq_true, List.all_eq_true] at hsl
            have hs0 : ∀ i ∈ tgSlots TG, i ∈ (ownOf c scope).map (·.2) := fun i hi => by simpa using hsl.1 i hi
            have hs1 : ∀ i ∈ tgSlots TG1, i ∈ (ownOf c scope).map (·.2) := fun i hi => by simpa using hsl.2 i hi
            have i2 := (it_okT h rX e1).2
            have G := fun s H C cl fp => (tg_ok (hin s H C cl fp) c1 e2).1
            have F := fun s H C cl fp => if_ok (hr _ _ _ _ (hin s H C cl fp)) e3
            have L := fun s H C cl fp => (hr _ _ _ _ (hin s H C cl fp) _ _ e4).pe
            have J := fun s H C cl fp => (it_okT (hin s H C cl fp) (hr _ _ _ _ (hin s H C cl fp)) e5).1
            have j2 := (it_okT (hin X.s_0 X.H_0 0 [] []) (hr _ _ _ _ (hin X.s_0 X.H_0 0 [] [])) e5).2
            have G1 := fun s H C cl fp => (tg_ok (hin s H C cl fp) c1 e6).1
            have F1 := fun s H C cl fp => if_ok (hr _ _ _ _ (hin s H C cl fp)) e7
            exact ⟨se_comp2 c1 h.nd hmd (it_okT h rX e1).1 bo hs1 hs0 (fun i hi => hi) G F J G1 F1 L i2 j2, fun i y py spos y1 y2 y3 y4 => sp_setc2 c1 h.nd hmd y1 y2 y3 y4 (it_okT h rX e1).1 bo hs1 hs0 (fun i hi => hi) G F J G1 F1 L i2 j2⟩
          · cases hs
        · cases hs
      · cases hs
    · cases hs
  · cases hs
theorem compX_ok {recC : Cfg → PySem.Expr → Option E} (h : XOk X g T W md c k) (he : c.exc = false) (hc : c.calm = true) (hst : c.stm = true) (hr : ∀ X W md c, XOk X g T W md c k → RecOk (recC c) X g T W md) {elt : PySem.Expr} {scope : Scope} {gs : List Comprehension} (hs : cCompX c recC elt scope gs = some A) :
    PE X (.ListComp elt gs scope pos) (tE g T W md A) := by
  obtain ⟨c1, c2, c3⟩ := h.calm hc
  obtain ⟨t1, t2⟩ := h.top hst
  have hmd : ∀ j a c d, md ≠ .exc j a c d := by
    rcases h.sui with ⟨_, z⟩ | ⟨z, _⟩
    · exact z
    · rw [he] at z; cases z
  have rX := hr _ _ _ _ h
  unfold cCompX at hs
  split at hs
  · split at hs
    · rename_i hb
      have hin := fun s H C cl fp => h.inner he hc hb s H C cl fp
      have bo : BlkOk X.N X.env.scope scope (ownOf c scope) := by rw [h.N, h.sc]; exact blkOk_by hb
      split at hs
      · rename_i IT TG CD A' e1 e2 e3 e4
        split at hs
        · rename_i hsl
          cases hs
          have hsl : ∀ i ∈ tgSlots TG, i ∈ (ownOf c scope).map (·.2) := by
            rw [List.all_eq_true] at hsl
            intro i hi
            simpa using hsl i hi
          have G := fun s H C cl fp => (tg_ok (hin s H C cl fp) c1 e2).1
          have F := fun s H C cl fp => if_ok (hr _ _ _ _ (hin s H C cl fp)) e3
          have L := fun s H C cl fp xe W' tk => (hr _ _ _ _ (h.innerX he hc hb s H C cl fp xe W' tk) _ _ e4).pe
          exact se_compX t1 t2 c2 c1 h.nd hmd (it_okT h rX e1).1 bo hsl G F L (it_okT h rX e1).2
        · cases hs
      · cases hs
    · cases hs
  · cases hs
theorem dict_ok (hK : g.K = X.K) {ks : List (Option PySem.Expr)} {vs : List PySem.Expr} (hs : cDict ks vs = some A) : PE X (.Dict ks vs pos) (tE g T W md A) := by
  unfold cDict at hs
  split at hs
  · cases hs
    exact se_dic pe_int pe_int
  · cases hs
/-- THE COMPILER IS SOUND for expressions -/
theorem compE_ok : ∀ (n : Nat) (X : Cx) (W : WX) (md : Md) (c : Cfg), XOk X g T W md c k → RecOk (compE n c) X g T W md
  | 0, X, W, md, c, h, e, A, hs => by simp only [compE] at hs; cases hs
  | n + 1, X, W, md, c, h, e, A, hs => by
    have hr : RecOk (compE n c) X g T W md := compE_ok n X W md c h
    simp only [compE] at hs
    split at hs
    · exact const_ok h.K hs
    · exact name_ok h hs
    · split at hs
      · rename_i A' B' h1 h2
        cases hs
        split
        · rename_i hob
          exact .of h.K (se_obin (h.obj hob) h.nodash (hr _ _ h1).pe (hr _ _ h2).pe) (fun _ => rfl) fun _ _ _ z => by cases z
        exact .of h.K (se_bin h.K (hr _ _ h1).pe (hr _ _ h2).pe) (fun _ => rfl) fun _ _ _ z => by cases z
      · cases hs
    · split at hs
      · obtain ⟨A', h1, rfl⟩ := Option.map_eq_some_iff.mp hs
        split
        · rename_i hob
          exact .of h.K (se_oneg (h.obj hob) (hr _ _ h1).pe) (fun _ => rfl) fun _ _ _ z => by cases z
        exact .of h.K (se_neg (hr _ _ h1).pe) (fun _ => rfl) fun _ _ _ z => by cases z
      · obtain ⟨A', h1, rfl⟩ := Option.map_eq_some_iff.mp hs
        exact ⟨se_not h.K (hr _ _ h1).pe, st_not (hr _ _ h1).pt, fun _ _ _ z => by cases z⟩
      · cases hs
    · exact cmp_okE h hr hs
    · exact bool_ok h.K hr hs
    · split at hs
      · rename_i C' A' B' h1 h2 h3
        cases hs
        exact ⟨se_ite (hr _ _ h1).pt (hr _ _ h2).pe (hr _ _ h3).pe, st_ite (hr _ _ h1).pt (hr _ _ h2).pt (hr _ _ h3).pt, fun _ _ _ z => by cases z⟩
      · cases hs
    · obtain ⟨As, h1, rfl⟩ := Option.map_eq_some_iff.mp hs
      exact .of h.K (se_tup (es_ok hr h1).2.1) (fun _ => rfl) fun _ _ _ z => by cases z
    · obtain ⟨As, h1, rfl⟩ := Option.map_eq_some_iff.mp hs
      exact .of h.K (se_lst (es_ok hr h1).2.1) (fun _ => rfl) fun _ _ _ z => by cases z
    · exact sub_ok h hr hs
    · exact attr_ok h hr hs
    · split at hs
      · rename_i hk
        have e0 := List.isEmpty_iff.mp hk
        subst e0
        exact call_ok h hr hs
      · cases hs
    · exact join_ok h hr hs
    · split at hs
      · rename_i hk
        simp only [Bool.and_eq_true, Bool.not_eq_true'] at hk
        split at hs
        · rename_i hcx
          rw [Bool.and_eq_true] at hcx
          exact .of h.K (compX_ok h hk.2 hk.1 hcx.2 (fun X W md c hx => compE_ok n X W md c hx) hs) (fun _ => rfl) fun _ _ _ z => by cases z
        exact .of h.K (comp_ok h hk.2 hk.1 (fun X W md c hx => compE_ok n X W md c hx) hs).1 (fun _ => rfl) fun _ _ _ z => by cases z
      · cases hs
    · exact .of h.K (dict_ok h.K hs) (fun _ => rfl) fun _ _ _ z => by cases z
    · cases hs
end
end Mch

/-! ## The compiler: statements -/
namespace Mch
open PySem PySem.Spec PyProof.Rows L2
/-! ### the compiler -/
def cAt (c : Cfg) (rec : PySem.Expr → Option E) : Nat → PySem.Expr → Option E
  | 0, _ => none
  | n + 1, e => match e with
    | .Name x _ => (match varOf c x with
      | some i => if decide (c.sc.names.lookup x = some .local) || (decide (c.sc.names.lookup x = some .cell) && c.fn x) then some (.var i) else none
      | none => none)
    | .Tuple ts _ _ => if c.calm && ts.all plain then (mapO (cAt c rec n) ts).map .tup else none
    | .Subscript o i _ => if notSlice i then (match rec o, rec i with
      | some O, some B => some (.idx O B)
      | _, _ => none) else none
    | _ => none
def isNameE : PySem.Expr → Bool
  | .Name _ _ => true
  | _ => false
def locSlot (c : Cfg) (x : Str) : Option Nat := if decide (c.sc.names.lookup x = some .local) then varOf c x else none
/-- a comprehension stored: true, if it comes within its block -/
def cAsgC (c : Cfg) (recC : Cfg → PySem.Expr → Option E) (elt : PySem.Expr) (gs : List Comprehension) (scope : Scope) (p : Pos) : PySem.Expr → Option S
  | .Name y py => (match cComp c recC elt scope gs with
    | some A => if swpB c.sc scope y py p then (locSlot c y).map fun i => .asg (.var i) A else (cAt c (recC c) 9 (.Name y py)).map fun TT => .asg TT A
    | none => none)
  | _ => none
def cPar (c : Cfg) (rec : PySem.Expr → Option E) (names : List Str) : List PySem.Expr → List PySem.Expr → Option S
  | [.Name x _, .Name y _], [a, b] => if names = [x, y] then (match locSlot c x, locSlot c y, cEs rec [a, b] with
    | some i, some j, some [A, B] => if i = j then none else some (.asg (.tup [.var i, .var j]) (.tup [A, B]))
    | _, _, _ => none) else none
  | [.Name x _, .Name y _, .Name z _], [a, b, d] => if names = [x, y, z] then (match locSlot c x, locSlot c y, locSlot c z, cEs rec [a, b, d] with
    | some i, some j, some l, some [A, B, D] => if i = j ∨ i = l ∨ j = l then none else some (.asg (.tup [.var i, .var j, .var l]) (.tup [A, B, D]))
    | _, _, _, _ => none) else none
  | _, _ => none
def cAsg1 (c : Cfg) (rec : PySem.Expr → Option E) (t e : PySem.Expr) : Option S := if plain t && notComp e then (match rec e, cAt c rec 9 t with
    | some A, some TT => some (.asg TT A)
    | _, _ => none) else none
def tupOf : PySem.Expr → Option (List PySem.Expr × Nat × Pos)
  | .Tuple ts k p => some (ts, k, p)
  | _ => none
def lcOf : PySem.Expr → Option (PySem.Expr × List Comprehension × Scope × Pos)
  | .ListComp elt gs scope p => some (elt, gs, scope, p)
  | _ => none
def cAsg (c : Cfg) (recC : Cfg → PySem.Expr → Option E) (t e : PySem.Expr) : Option S := match lcOf e with
  | some (elt, gs, scope, p) => if c.calm && !c.exc then cAsgC c recC elt gs scope p t else none
  | none => match tupOf t, tupOf e with
    | some (ts, _, _), some (vs, _, _) => (match swK c.sc ts vs with
      | some none => cAsg1 c (recC c) t e
      | some (some names) => if c.calm then cPar c (recC c) names ts vs else none
      | none => none)
    | _, _ => if notSeq t || notSeq e then cAsg1 c (recC c) t e else none
def exCls (c : Cfg) (x : Str) : Option (Nat × ClsM) := if isGl c x then (match c.cls.lookup x with
  | some j => (match c.P.clss[j]? with
    | some C => if C.exc then some (j, C) else none
    | none => none)
  | none => none) else none
def cRaise (c : Cfg) (rec : PySem.Expr → Option E) : PySem.Expr → Option S
  | .Call (.Name x _) [e] kw _ => if kw.isEmpty then (match exCls c x with
    | some (j, C) => (match C.fields with
      | [] => (match e with
        | .Constant (.str m) _ _ => some (.raise j [.str m])
        | _ => none)
      | [_] => if plain e then (rec e).map fun A => .raise j [A] else none
      | _ => none)
    | none => none) else none
  | _ => none
/-- self.f = e within an __init__ -/
def cSetf (c : Cfg) (rec : PySem.Expr → Option E) (e : PySem.Expr) : PySem.Expr → Option S
  | .Attribute (.Name n _) f _ => if c.stm && decide (c.xs = some 0) && (!c.exc && (notComp e && ((slotOf c n == some 0) && (c.P.clss.all fun C => !(C.fields.contains f) || C.init.isSome)))) then (rec e).map fun A => .setf f A else none
  | _ => none
def isAttr : PySem.Expr → Bool
  | .Attribute _ _ _ => true
  | _ => false
def Cfg.suite (c : Cfg) (ni : Option Nat) : Cfg := { c with calm := false, stm := false, exc := ni.isSome, xs := ni }
/-- the slot of a clause's name -/
def cNm (c : Cfg) : Option Str → Option (Option Nat)
  | none => some none
  | some n => (locSlot c n).map some
def cHd (c : Cfg) (rec : Cfg → Stmt → Option S) : ExceptHandler → Option (Nat × Option Nat × List S)
  | .ExceptHandler (some (.Name x _)) n (b :: su) _ => (match exCls c x, cNm c n with
    | some (j, _), some ni => (match mapO (rec (c.suite ni)) (b :: su) with
      | some Hb => some (j, ni, Hb)
      | none => none)
    | _, _ => none)
  | _ => none
def cTry (c : Cfg) (rec : Cfg → Stmt → Option S) (b : List Stmt) : List ExceptHandler → Option S
  | [h] => (match mapO (rec c) b, cHd c rec h with
    | some B, some (j, ni, Hb) => some (.try1 B j ni Hb)
    | _, _ => none)
  | [h, h'] => (match mapO (rec c) b, cHd c rec h, cHd c rec h' with
    | some B, some (j, ni, Hb), some (j', ni', Hb') => some (.try2 B j ni Hb j' ni' Hb')
    | _, _, _ => none)
  | _ => none
def compS : Nat → Cfg → Stmt → Option S
  | 0, _, _ => none
  | n + 1, c, s => match s with
    | .Pass _ => some .pass
    | .Break _ => some .brk
    | .Continue _ => some .cnt
    | .Return none _ => some .retN
    | .Return (some e) _ => (compE 40 c e).map .ret
    | .Expr e _ => if notComp e then (compE 40 c e).map .expr else none
    | .If t a b _ => (match compE 40 c t, mapO (compS n c) a, mapO (compS n c) b with
      | some C, some A, some B => some (.ite C A B)
      | _, _, _ => none)
    | .While t b o _ => if c.stm && o.isEmpty then (match compE 40 c t, mapO (compS n c) b with
      | some C, some B => some (.while C B)
      | _, _ => none) else none
    | .For tg it b o _ => if c.stm && (c.calm && o.isEmpty) then (match cItT c (compE 40 c) tg it, cTg c 9 tg, mapO (compS n c) b with
      | some J, some TG, some B => some (.for TG J B)
      | _, _, _ => none) else none
    | .Assign ts e _ => (match ts with
      | [t] => if isAttr t then cSetf c (compE 40 c) e t else cAsg c (compE 40) t e
      | _ => none)
    | .Raise x y _ => (match x, y with
      | some x, none => if c.calm then cRaise c (compE 40 c) x else none
      | _, _ => none)
    | .Try b hs o f _ => if c.stm && (c.calm && (!c.exc && (c.xs.isNone && (o.isEmpty && f.isEmpty)))) then cTry c (compS n) b hs else none
    | _ => none
/-! ### it is sound -/
structure XSt (X : Cx) (c : Cfg) : Prop where
  stm : c.stm = true → PassesOwn (model X.prog X.w) X.A X.env X.xe ∧ X.stack = X.env :: X.outer ∧ X.env.frame = some X.env.locals
section
variable {X : Cx} {g : Glob} {T : Tab} {W : WX} {md : Md} {c : Cfg} {k : Nat} {e a b t : PySem.Expr} {A B : E} {pos : Pos} {rec : PySem.Expr → Option E} {st : S}
theorem locSlot_ok (h : XOk X g T W md c k) {x : Str} {i : Nat} (hs : locSlot c x = some i) : X.N[i]? = some x ∧ X.env.scope.names.lookup x = some .local ∧ md.ex i = false := by
  unfold locSlot at hs
  split at hs
  · rename_i hl
    obtain ⟨h1, h2⟩ := h.var hs
    rw [h.sc]
    exact ⟨(h.slot h1).1, by simpa using hl, h2⟩
  · cases hs
theorem at_ok (h : XOk X g T W md c k) (hr : RecOk rec X g T W md) : ∀ {n : Nat} {e : PySem.Expr} {A : E}, cAt c rec n e = some A → PG X e (gA g T md A)
  | 0, e, A, hs => by simp only [cAt] at hs; cases hs
  | n + 1, e, A, hs => by
    simp only [cAt] at hs
    split at hs
    · split at hs
      · rename_i i hi
        split at hs
        · rename_i hl
          cases hs
          obtain ⟨h1, h2⟩ := h.var hi
          obtain ⟨h3, h4, h5, h6⟩ := h.slot h1
          obtain ⟨l1, l2⟩ := loc_ok h hl
          exact ga_var h.nd h3 l1 l2 h2
        · cases hs
      · cases hs
    · split at hs
      · rename_i ts j p hp
        rw [Bool.and_eq_true] at hp
        obtain ⟨As, h1, rfl⟩ := Option.map_eq_some_iff.mp hs
        have q : ∀ {ts : List PySem.Expr} {As : List E}, ts.all plain = true → mapO (cAt c rec n) ts = some As → PGs X ts (gAs g T md As) ∧ ts.length = As.length := by
          intro ts
          induction ts with
          | nil =>
            intro As _ hm
            simp only [mapO, Option.some.injEq] at hm
            subst hm
            exact ⟨gas_nil, rfl⟩
          | cons t ts ih =>
            intro As hp hm
            rw [List.all_cons, Bool.and_eq_true] at hp
            simp only [mapO] at hm
            split at hm
            · rename_i A As' e1 e2
              cases hm
              obtain ⟨i1, i2⟩ := ih hp.2 e2
              exact ⟨gas_cons hp.1 (at_ok h hr e1) i1, by simp [i2]⟩
            · cases hm
        obtain ⟨q1, q2⟩ := q hp.2 h1
        exact ga_tup (h.calm hp.1).1 h.K hp.2 q2 q1
      · cases hs
    · split at hs
      · rename_i hn
        split at hs
        · rename_i O B' h1 h2
          cases hs
          exact ga_idx hn (hr _ _ h1).pe (hr _ _ h2).pe
        · cases hs
      · cases hs
    · cases hs
theorem sp_asgG {TT : E} (hs : swapsWith e (some t) pos.line X.env = pure false) (hp : plain t = true) (hw : swappedStores [t] e X.env = pure none) (he : PE X e (tE g T W md A)) (hg : PG X t (gA g T md TT)) : PS X (.Assign [t] e pos) (tR g W md (evS T (.asg TT A))) := by
  refine ⟨fun pins s σ H D I h => (ps_asg he hg hs hw (assign1 hp)).run pins s σ H D I ?_⟩
  obtain ⟨φ, G, μ, σm, sb, r, st, h⟩ := h
  simp only [evS] at h
  refine ⟨φ, G, μ, σm, sb, r, st, (h.stm st).imp fun v μ1 φ1 G1 H1 e1 r1 k w hw => ⟨φ1, G1, μ1, v, σm, e1.sub, r1, hw, st.ext e1, ?_⟩⟩
  cases e0 : asgT T TT v σm μ1 with
  | ok σ1 μ2 => rw [e0] at k; exact k
  | exc x' μ2 => rw [e0] at k; exact k.elim
  | no => rw [e0] at k; exact k.elim
theorem asg1_ok (h : XOk X g T W md c k) (hr : RecOk rec X g T W md) (hw : swappedStores [t] e X.env = pure none) (hs : cAsg1 c rec t e = some st) : PS X (.Assign [t] e pos) (tR g W md (evS T st)) := by
  unfold cAsg1 at hs
  split at hs
  · rename_i hp
    rw [Bool.and_eq_true] at hp
    split at hs
    · rename_i A TT h1 h2
      cases hs
      exact sp_asgG (swaps_no hp.2) hp.1 hw (hr _ _ h1).pe (at_ok h hr h2)
    · cases hs
  · cases hs
theorem bk_ok (h : XOk X g T W md c k) : X.env.blockKind = .function := by
  unfold Env.blockKind
  rw [h.sc, h.bk]
  rfl
theorem par_ok (h : XOk X g T W md c k) (hc : c.calm = true) (hr : RecOk rec X g T W md) {names : List Str} {ts vs : List PySem.Expr} {kt k2 : Nat} {pt pt2 : Pos} (hw : swappedStores [.Tuple ts kt pt] (.Tuple vs k2 pt2) X.env = pure (some names)) (hs : cPar c rec names ts vs = some st) :
    PS X (.Assign [.Tuple ts kt pt] (.Tuple vs k2 pt2) pos) (tR g W md (evS T st)) := by
  obtain ⟨c1, c2, c3⟩ := h.calm hc
  unfold cPar at hs
  split at hs
  · split at hs
    · rename_i hn
      subst hn
      split at hs
      · rename_i i j A B h1 h2 h3
        obtain ⟨q1, q2, q3⟩ := es_ok hr h3
        obtain ⟨a1, a2, a3⟩ := locSlot_ok h h1
        obtain ⟨b1, b2, b3⟩ := locSlot_ok h h2
        split at hs
        · cases hs
        · rename_i hij
          cases hs
          exact sp_par2 c1 h.nd a1 b1 hij a3 b3 a2 b2 q2 hw
      · cases hs
    · cases hs
  · split at hs
    · rename_i hn
      subst hn
      split at hs
      · rename_i i j l A B D h1 h2 h3 h4
        obtain ⟨q1, q2, q3⟩ := es_ok hr h4
        obtain ⟨a1, a2, a3⟩ := locSlot_ok h h1
        obtain ⟨b1, b2, b3⟩ := locSlot_ok h h2
        obtain ⟨d1, d2, d3⟩ := locSlot_ok h h3
        split at hs
        · cases hs
        · rename_i hij
          simp only [not_or] at hij
          cases hs
          exact sp_par3 c1 h.nd a1 b1 d1 hij.1 hij.2.1 hij.2.2 a3 b3 d3 a2 b2 d2 q2 hw
      · cases hs
    · cases hs
  · cases hs
theorem asg_ok {recC : Cfg → PySem.Expr → Option E} (h : XOk X g T W md c k) (hrC : ∀ X W md c, XOk X g T W md c k → RecOk (recC c) X g T W md) (hs : cAsg c recC t e = some st) : PS X (.Assign [t] e pos) (tR g W md (evS T st)) := by
  have hr := hrC _ _ _ _ h
  unfold cAsg at hs
  split at hs
  · rename_i elt gs scope p hl
    have he : e = .ListComp elt gs scope p := by
      unfold lcOf at hl
      split at hl
      · cases hl; rfl
      · cases hl
    subst he
    split at hs
    · rename_i hk
      simp only [Bool.and_eq_true, Bool.not_eq_true'] at hk
      unfold cAsgC at hs
      split at hs
      · rename_i y py
        split at hs
        · rename_i A h2
          split at hs
          · rename_i hsw
            obtain ⟨i, h1, rfl⟩ := Option.map_eq_some_iff.mp hs
            obtain ⟨a1, a2, a3⟩ := locSlot_ok h h1
            refine (comp_ok h hk.2 hk.1 hrC h2).2 i y py pos a1 a2 a3 ?_
            rw [swpB_ok (bk_ok h), h.sc, hsw]
          · rename_i hsw
            obtain ⟨TT, h1, rfl⟩ := Option.map_eq_some_iff.mp hs
            refine sp_asgG ?_ rfl (sw_none (.inl rfl)) (comp_ok h hk.2 hk.1 hrC h2).1 (at_ok h hr h1)
            rw [swpB_ok (bk_ok h), h.sc]
            simp only [Bool.not_eq_true] at hsw
            rw [hsw]
        · cases hs
      · cases hs
    · cases hs
  · split at hs
    · rename_i ts k1 p1 vs k2 p2 ht he'
      have e1 : t = .Tuple ts k1 p1 := by
        unfold tupOf at ht
        split at ht
        · cases ht; rfl
        · cases ht
      have e2 : e = .Tuple vs k2 p2 := by
        unfold tupOf at he'
        split at he'
        · cases he'; rfl
        · cases he'
      subst e1 e2
      split at hs
      · rename_i hw
        exact asg1_ok h hr (swK_ok h.sc (bk_ok h) hw) hs
      · rename_i names hw
        split at hs
        · rename_i hc
          exact par_ok h hc hr (swK_ok h.sc (bk_ok h) hw) hs
        · cases hs
      · cases hs
    · split at hs
      · rename_i hn
        rw [Bool.or_eq_true] at hn
        exact asg1_ok h hr (sw_none hn) hs
      · cases hs
theorem exCls_ok (h : XOk X g T W md c k) {x : Str} {j : Nat} {C : ClsM} (hs : exCls c x = some (j, C)) : ∃ Ca, ClsAt X g x j Ca ∧ g.P.clss[j]? = some C ∧ C.exc = true ∧ Gl X x ∧ X.mg x = some (.ref Ca) ∧ (x == ("__debug__" : Str)) = false := by
  unfold exCls at hs
  split at hs
  · rename_i hg
    obtain ⟨g1, g2⟩ := h.gl hg
    split at hs
    · rename_i j' hj
      split at hs
      · rename_i C' hC
        split at hs
        · rename_i he
          cases hs
          obtain ⟨Ca, h1, h2⟩ := h.cls x j hj
          rw [h.cP] at hC
          exact ⟨Ca, ⟨⟨g1, g2, .inl h2⟩, h1, C, hC, he⟩, hC, he, g1, h2, g2⟩
        · cases hs
      · cases hs
    · cases hs
  · cases hs
theorem raise_ok (h : XOk X g T W md c k) (hc : c.calm = true) (hr : RecOk rec X g T W md) (hs : cRaise c rec e = some st) : PS X (.Raise (some e) none pos) (tR g W md (evS T st)) := by
  obtain ⟨c1, c2, c3⟩ := h.calm hc
  unfold cRaise at hs
  split at hs
  · split at hs
    · rename_i hk
      have e0 := List.isEmpty_iff.mp hk
      subst e0
      split at hs
      · rename_i j C hx
        obtain ⟨Ca, q1, q2, q3, q4, q5, q6⟩ := exCls_ok h hx
        split at hs
        · rename_i hf
          split at hs
          · cases hs
            exact sp_raise0 c1 c2 h.exc h.TP h.K q1.ca q2 q3 hf q4 q5 q6
          · cases hs
        · rename_i f hf
          split at hs
          · rename_i hp
            obtain ⟨A', h1, rfl⟩ := Option.map_eq_some_iff.mp hs
            exact sp_raise1 c1 c2 (h.xfs j Ca C f q1.ca q2 q3 hf) h.TP (c3.mono (by omega)) q1.ca q4 q5 q6 hp (hr _ _ h1).pe
          · cases hs
        · cases hs
      · cases hs
    · cases hs
  · cases hs
theorem setf_ok (h : XOk X g T W md c k) (hr : RecOk rec X g T W md) (hs : cSetf c rec e t = some st) : PS X (.Assign [t] e pos) (tR g W md (evS T st)) := by
  unfold cSetf at hs
  split at hs
  · rename_i n p f pos'
    split at hs
    · rename_i hb
      simp only [Bool.and_eq_true, decide_eq_true_eq, Bool.not_eq_true', List.all_eq_true, Bool.or_eq_true, List.contains_eq_mem] at hb
      obtain ⟨⟨b0, b1⟩, b2, b3, b4, b5⟩ := hb
      obtain ⟨A, h1, rfl⟩ := Option.map_eq_some_iff.mp hs
      have hsl : slotOf c n = some 0 := by simpa using b4
      obtain ⟨q1, q2, q3, q4⟩ := h.slot hsl
      have hmd : ∃ x, md = .ini x ∨ md = .hid0 ∨ ∃ a cl d, md = .exc 0 a cl d := by
        have := h.mdx 0
        rw [b1] at this
        cases md with
        | no => simp [Md.ex] at this
        | ini x => exact ⟨x, .inl rfl⟩
        | hid0 => exact ⟨0, .inr (.inl rfl)⟩
        | exc i a cl d =>
          have e0 : i = 0 := by have z : 0 = i := by simpa [Md.ex] using this
                                exact z.symm
          subst e0
          exact ⟨0, .inr (.inr ⟨a, cl, d, rfl⟩)⟩
      obtain ⟨x, rfl | rfl | ⟨a, cl, d, rfl⟩⟩ := hmd
      · refine sp_setf h.TP h.K h.fld h.fnd (fun j Cl hC hf => ?_) q1 q2 q3 q4 b3 (hr _ _ h1).pe
        rw [← h.cP] at hC
        rcases b5 Cl (List.mem_of_getElem? hC) with z | z
        · exact absurd hf (by simpa using z)
        · exact z
      · exact absurd rfl (h.hid b0)
      · rcases h.sui with ⟨_, z⟩ | ⟨z, _⟩
        · exact absurd rfl (z 0 a cl d)
        · rw [b2] at z; cases z
    · cases hs
  · cases hs
/-- statements' soundness -/
def SRec (rec : Cfg → Stmt → Option S) (g : Glob) (T : Tab) (k : Nat) : Prop := ∀ X W md c s S, XOk X g T W md c k → XSt X c → rec c s = some S → PS X s (tR g W md (evS T S))
theorem body_ok {rec : Cfg → Stmt → Option S} (hr : SRec rec g T k) (h : XOk X g T W md c k) (hx : XSt X c) : ∀ {ss : List Stmt} {B : List S}, mapO (rec c) ss = some B → PSs X ss (tR g W md (evB T B))
  | [], B, hs => by
    simp only [mapO, Option.some.injEq] at hs
    subst hs
    exact ss_nil
  | s :: ss, B, hs => by
    simp only [mapO] at hs
    split at hs
    · rename_i S B' h1 h2
      cases hs
      exact ss_cons (hr X W md c s S h hx h1) (body_ok hr h hx h2)
    · cases hs
theorem md_no (h : XOk X g T W md c k) (hx : c.xs = none) : md = .no := by
  have q : ∀ i, md.ex i = false := fun i => by rw [h.mdx, hx]; rfl
  cases md with
  | no => rfl
  | ini x => exact absurd (q 0) (by simp [Md.ex])
  | hid0 => exact absurd (q 0) (by simp [Md.ex])
  | exc i a cl d => exact absurd (q i) (by simp [Md.ex])
theorem XOk.tr (h : XOk X g T W md c k) (W' : WX) (pn : List (Addr × Obj)) (xe : Value → Shared → Prop) (tk : Takes (X.tr pn xe) W') (hn : c.exc = false) : XOk (X.tr pn xe) g T W' md c k :=
  ⟨h.N, h.nd, h.sc, h.bk, h.fn, h.K, h.TP, h.cP, h.un, h.kit, h.exc, h.fld, fun hc => let ⟨c1, _, c3⟩ := h.calm hc; ⟨c1, tk, c3⟩, fun z => (let o := h.obj z; ⟨o.K, o.TP, o.o, o.kit, o.met, o.hr4, tk⟩), h.nodash, h.mks, h.xfs, h.ics, h.dcs, h.hid, h.top, h.fnd, h.funs, h.fadr, h.cls, h.blt, h.mdx, .inl ⟨hn, by
    rcases h.sui with ⟨_, z⟩ | ⟨z, _⟩
    · exact z
    · rw [hn] at z; cases z⟩⟩
theorem XOk.suite (h : XOk X g T W md c k) {ni : Option Nat} (a : Addr) (oe : Obj) (cl : Value) (d : Option Addr) (pn : List (Addr × Obj)) (hz : Zc cl d oe) (hv : ∃ vs, oe.data = .fields vs) : XOk (X.suite a ((a, oe) :: pn)) g T W0 (sMd ni a cl d) (c.suite ni) k := by
  refine ⟨h.N, h.nd, h.sc, h.bk, h.fn, h.K, h.TP, h.cP, h.un, h.kit, h.exc, h.fld, (fun z => by cases z), (fun z => by unfold Cfg.obj at z; rw [show (c.suite ni).calm = false from rfl, Bool.and_false] at z; cases z), h.nodash, h.mks, h.xfs, h.ics, h.dcs, (fun z => by cases z), (fun z => by cases z), h.fnd, h.funs, h.fadr, h.cls, h.blt, fun i => ?_, ?_⟩
  · cases ni with
    | none => rfl
    | some j =>
      show (i == j) = decide (some j = some i)
      by_cases e : i = j
      · subst e; simp
      · have e' : j ≠ i := fun (z : j = i) => e z.symm
        simp [e, e']
  · cases ni with
    | none => exact .inl ⟨rfl, fun _ _ _ _ z => by cases z⟩
    | some j => exact .inr ⟨rfl, rfl, rfl, j, a, cl, d, X, oe, pn, rfl, rfl, hz, hv⟩
theorem nm_ok (h : XOk X g T W md c k) {n : Option Str} {ni : Option Nat} (hs : cNm c n = some ni) : NameAt X n ni := by
  cases n with
  | none =>
    simp only [cNm, Option.some.injEq] at hs
    subst hs
    trivial
  | some n =>
    obtain ⟨i, h1, rfl⟩ := Option.map_eq_some_iff.mp hs
    obtain ⟨q1, q2, _⟩ := locSlot_ok h h1
    exact ⟨q1, q2⟩
theorem hd_ok {rec : Cfg → Stmt → Option S} (hr : SRec rec g T k) (h : XOk X g T W md c k) {hd : ExceptHandler} {j : Nat} {ni : Option Nat} {Hb : List S} (hs : cHd c rec hd = some (j, ni, Hb)) :
    ∃ x np n b su pos' C, hd = .ExceptHandler (some (.Name x np)) n (b :: su) pos' ∧ ClsAt X g x j C ∧ NameAt X n ni ∧
      ∀ (a : Addr) (oe : Obj) (cls : Value) (d : Option Addr) (pn : List (Addr × Obj)), Zc cls d oe → (∃ vs, oe.data = .fields vs) → PSs (X.suite a ((a, oe) :: pn)) (b :: su) (tR g W0 (sMd ni a cls d) (evB T Hb)) := by
  unfold cHd at hs
  split at hs
  · rename_i x np n b su pos'
    split at hs
    · rename_i j' C' ni' h1 h2
      split at hs
      · rename_i Hb' h3
        cases hs
        obtain ⟨Ca, q1, _⟩ := exCls_ok h h1
        exact ⟨x, np, n, b, su, pos', Ca, rfl, q1, nm_ok h h2, fun a oe cls d pn hz hv => body_ok hr (h.suite a oe cls d pn hz hv) ⟨fun z => by cases z⟩ h3⟩
      · cases hs
    · cases hs
  · cases hs
theorem try_ok {rec : Cfg → Stmt → Option S} (hr : SRec rec g T k) (h : XOk X g T W md c k) (hx : XSt X c) (hst : c.stm = true) (hc : c.calm = true) (hn : c.exc = false) (hxs : c.xs = none) {b : List Stmt} {hs : List ExceptHandler} (hh : cTry c rec b hs = some st) : PS X (.Try b hs [] [] pos) (tR g W md (evS T st)) := by
  obtain ⟨c1, c2, c3⟩ := h.calm hc
  obtain ⟨p1, p2, p3⟩ := hx.stm hst
  have e0 := md_no h hxs
  subst e0
  have hb : ∀ {B : List S}, mapO (rec c) b = some B → ∀ (W : WX) (pn : List (Addr × Obj)) (xe : Value → Shared → Prop), Takes (X.tr pn xe) W → PassesOwn (model X.prog X.w) X.A X.env xe → PSs (X.tr pn xe) b (tR g W .no (evB T B)) :=
    fun hB W pn xe tk po => body_ok hr (h.tr W pn xe tk hn) ⟨fun _ => ⟨po, p2, p3⟩⟩ hB
  unfold cTry at hh
  split at hh
  · split at hh
    · rename_i B j ni Hb h1 h2
      cases hh
      obtain ⟨x, np, n, b₀, su, pos', C, rfl, q1, q2, q3⟩ := hd_ok hr h h2
      exact sp_try1 p2 p3 h.nd c2 h.exc h.K h.TP q1 q2 (hb h1) q3
    · cases hh
  · split at hh
    · rename_i B j ni Hb j' ni' Hb' h1 h2 h3
      cases hh
      obtain ⟨x, np, n, b₀, su, pos', C, rfl, q1, q2, q3⟩ := hd_ok hr h h2
      obtain ⟨x', np', n', b₀', su', pos'', C', rfl, q1', q2', q3'⟩ := hd_ok hr h h3
      exact sp_try2 p2 p3 h.nd c2 h.exc h.K h.TP q1 q2 q1' q2' (hb h1) q3 q3'
    · cases hh
  · cases hh
/-- THE COMPILER IS SOUND for statements -/
theorem compS_ok : ∀ (n : Nat), SRec (compS n) g T k
  | 0, X, W, md, c, s, S', h, hx, hs => by simp only [compS] at hs; cases hs
  | n + 1, X, W, md, c, s, S', h, hx, hs => by
    have hr : SRec (compS n) g T k := compS_ok n
    have he : RecOk (compE 40 c) X g T W md := compE_ok 40 X W md c h
    simp only [compS] at hs
    split at hs
    · cases hs; exact sp_pass
    · cases hs; exact sp_brk
    · cases hs; exact sp_cnt
    · cases hs; exact sp_retN
    · obtain ⟨A, h1, rfl⟩ := Option.map_eq_some_iff.mp hs
      exact sp_ret (he _ _ h1).pe
    · split at hs
      · rename_i hn
        obtain ⟨A, h1, rfl⟩ := Option.map_eq_some_iff.mp hs
        exact sp_expr hn (he _ _ h1).pe
      · cases hs
    · split at hs
      · rename_i C A B h1 h2 h3
        cases hs
        exact sp_ite (he _ _ h1).pt (body_ok hr h hx h2) (body_ok hr h hx h3)
      · cases hs
    · split at hs
      · rename_i hk
        rw [Bool.and_eq_true] at hk
        have e0 := List.isEmpty_iff.mp hk.2
        subst e0
        split at hs
        · rename_i C B h1 h2
          cases hs
          exact sp_while (hx.stm hk.1).1 (he _ _ h1).pt (body_ok hr h hx h2)
        · cases hs
      · cases hs
    · split at hs
      · rename_i hk
        rw [Bool.and_eq_true, Bool.and_eq_true] at hk
        obtain ⟨k1, k2, k3⟩ := hk
        have e0 := List.isEmpty_iff.mp k3
        subst e0
        split at hs
        · rename_i J TG B h1 h2 h3
          cases hs
          obtain ⟨q1, q2⟩ := tg_ok h (h.calm k2).1 h2
          obtain ⟨i1, i2⟩ := it_okT h he h1
          exact sp_for (hx.stm k1).1 (h.calm k2).1 i2 q2 i1 q1 (body_ok hr h hx h3)
        · cases hs
      · cases hs
    · split at hs
      · split at hs
        · exact setf_ok h he hs
        · exact asg_ok h (fun X W md c hx => compE_ok 40 X W md c hx) hs
      · cases hs
    · split at hs
      · split at hs
        · rename_i hc
          exact raise_ok h hc he hs
        · cases hs
      · cases hs
    · split at hs
      · rename_i hk
        simp only [Bool.and_eq_true, Bool.not_eq_true', Option.isNone_iff_eq_none] at hk
        obtain ⟨k1, k2, k3, k4, k5, k6⟩ := hk
        have e1 := List.isEmpty_iff.mp k5
        have e2 := List.isEmpty_iff.mp k6
        subst e1 e2
        exact try_ok hr h hx k1 k2 k3 k4 hs
      · cases hs
    · cases hs
end
end Mch

/-! ## The defs of a text keep what the machine says -/
namespace Mch
open PySem PySem.Spec PyProof.Rows L2
/-- a def: where it stands, its parameters, its slots, its defaults as the machine has them -/
inductive FK where
  | fn | ini (c : Nat) | xin (c : Nat) (f B : Str)
  deriving DecidableEq
structure FS where
  d : He.DefD
  ps : List Str
  N : List Str
  kd : FK := .fn
  ob : Bool := false
  cx : Bool := false
/-- a text -/
structure Txt' where
  fs : List FS
  cls : List Str
  blts : List Str
  P : Prog
  ics : List (Str × Int) := []
  dcs : List Str := []
def dvM : He.Dv → Option MV
  | .non => some .non
  | .bl b => some (.bl b)
  | .int i => some (.int i)
  | .str s => some (.str s)
  | _ => none
def numb (l : List Str) (i : Nat) : List (Str × Nat) := match l with
  | [] => []
  | x :: r => (x, i) :: numb r (i + 1)
theorem numb_ok : ∀ {l : List Str} {i j : Nat} {x : Str}, (numb l i).lookup x = some j → ∃ k, j = i + k ∧ l[k]? = some x
  | [], i, j, x, h => by cases h
  | y :: r, i, j, x, h => by
    unfold numb at h
    rw [List.lookup_cons] at h
    split at h
    · rename_i e
      cases h
      exact ⟨0, rfl, by simp [eq_of_beq e]⟩
    · obtain ⟨k, h1, h2⟩ := numb_ok h
      exact ⟨k + 1, by omega, by simpa using h2⟩
/-- a name that stands for a def of the top; a method stands under none -/
def FS.nm (F : FS) : Str := match F.d.at_.2 with
  | none => F.d.at_.1
  | some _ => ""
def Txt'.glob (S : Txt') (K : PySem.W.Frag) : Glob := ⟨K, fun f => match S.fs[f]? with
  | some F => if F.d.at_.2.isNone then some (He.fAd K F.d.at_) else none
  | none => none, fun f => match S.fs[f]? with
  | some F => if F.kd = .fn then some (He.fAd K F.d.at_) else none
  | none => none, fun c => (S.cls[c]?).map (He.ga K), S.P⟩
def Txt'.cfg (S : Txt') (F : FS) : Cfg := { N := F.N, sc := F.d.scope, fns := S.fs.map FS.nm, cls := numb S.cls 0, blts := S.blts, P := S.P, ob := F.ob, cx := F.cx, ics := S.ics, dcs := S.dcs, xs := match F.kd with
  | .ini _ => some 0
  | _ => none }
/-! ### the facts of the head -/
def nmB : List String := ["NoneType", "bool", "int", "str", "tuple", "list", "dict"]
def tyB : List TyR := [.int, .bool, .str, .list, .tuple, .dict]
def insB (K : PySem.W.Frag) (C : Addr) : Bool := decide (PySem.W.findIn K (.ref C) "__class__" = some (some (.builtin "object.__class__"))) && (decide (PySem.W.specialIn K (.builtin "object.__class__") "__get__" = some (some (.builtin "getset_descriptor.__get__"))) &&
  (decide (PySem.W.takesIn K (.builtin "object.__class__") = some true) && decide (PySem.W.mroIn K C (.type "object") = some true)))
def upB (S : Txt') (K : PySem.W.Frag) (q : Value → Value → Option Bool) (C : Addr) (Cl : ClsM) (l : List Str) (j : Nat) : Bool := match l with
  | [] => true
  | y :: r => decide (q (.ref C) (.ref (He.ga K y)) = some (decide (j ∈ Cl.up))) && upB S K q C Cl r (j + 1)
def excB (S : Txt') (K : PySem.W.Frag) (C : Addr) (Cl : ClsM) (l : List Str) (j : Nat) : Bool := match l with
  | [] => true
  | y :: r => (match S.P.clss[j]? with
    | some Dl => if Dl.exc then decide (PySem.W.exmOne K (.ref C) (.ref (He.ga K y)) = some (decide (j ∈ Cl.up))) else true
    | none => true) && excB S K C Cl r (j + 1)
def opsO : List Operator := [.Add, .Sub, .Mult]
def methB (S : Txt') (K : PySem.W.Frag) (x : Str) (Cl : ClsM) (m : Str × Nat) : Bool := (He.Fa.meth x m.1).ok K && (!Cl.fields.contains m.1 && (match S.fs[m.2]? with
  | some F => decide (F.d.at_ = (x, some m.1)) && decide (F.kd = .fn)
  | none => false))
/-- a class of objects -/
def objB (S : Txt') (K : PySem.W.Frag) (x : Str) (Cl : ClsM) : Bool := (He.Fa.cls x).ok K && (PySem.W.selfFirst K (He.ga K x) && ((nmB.all fun n => decide (PySem.W.subIn K (.type n) (.ref (He.ga K x)) = some false)) &&
  ((opsO.all fun op => decide (PySem.W.findIn K (.ref (He.ga K x)) (PySem.dunderR op.info.2) = some none)) && (Cl.meths.all (methB S K x Cl) &&
  ((if (Cl.meths.lookup ("__ne__" : Str)).isNone then decide (PySem.W.findIn K (.ref (He.ga K x)) "__ne__" = some (some (.builtin "object.__ne__"))) else true) && (decide (PySem.W.mroIn K (He.ga K x) (.type "object") = some true) &&
  (decide (PySem.W.findIn K (.ref (He.ga K x)) "__format__" = some (some (.builtin "object.__format__"))) && upB S K (PySem.W.subIn K) (He.ga K x) Cl S.cls 0)))))))
def iniB (S : Txt') (K : PySem.W.Frag) (x : Str) (c : Nat) (Cl : ClsM) : Bool := match Cl.init with
  | some i => !Cl.exc && ((He.Fa.mkr x).ok K && ((match S.fs[i]? with
    | some F => decide (F.d.at_ = (x, some ("__init__" : Str))) && decide (F.kd = .ini c)
    | none => false) && (decide Cl.fields.Nodup && decide (Cl.fields.length < 1000))))
  | none => true
/-- a class of exceptions with a field -/
def xcB (S : Txt') (K : PySem.W.Frag) (x : Str) (c : Nat) (Cl : ClsM) : Bool := match Cl.fields with
  | [f] => if Cl.exc then oexB K (He.ga K x) && S.fs.any fun F => (match F.kd with
    | .xin c' f' B => decide (c' = c) && (decide (f' = f) && (decide (F.d.at_ = (x, some ("__init__" : Str))) && (decide (PySem.W.findIn K (.ref (He.ga K x)) "__init__" = some (some (.ref (He.fAd K F.d.at_)))) && (decide (PySem.W.typeIn K (.ref (He.fAd K F.d.at_)) = some (.type "function")) &&
      ((He.Fa.glo B).ok K && (PySem.W.readsIn K (He.ga K B) (.type "type") && (decide (PySem.W.specialIn K (.ref (He.ga K B)) "__getattribute__" = some (some (.builtin "type.__getattribute__"))) && (match PySem.W.findCls K (.ref (He.ga K B)) (.type "type") "__init__" with
        | some (.val v) => v == .builtin "ValueError.__init__"
        | _ => false))))))))
    | _ => false) else true
  | _ => true
def clsB (S : Txt') (K : PySem.W.Frag) (x : Str) (c : Nat) (Cl : ClsM) : Bool :=
  ((He.Fa.glo x).ok K && ((if Cl.exc then true else objB S K x Cl) && (iniB S K x c Cl && xcB S K x c Cl))) && ((nmB.all fun n => decide (PySem.W.kitOne K (.type n) (.ref (He.ga K x)) = some false)) &&
  ((if Cl.exc then xfB K (He.ga K x) && ((Cl.fields.all fun f => decide (PySem.W.findIn K (.ref (He.ga K x)) f = some none)) && ((PySem.W.keepIn K (.ref (He.ga K x)) && (decide (PySem.W.subIn K (.ref (He.ga K x)) (.type "BaseException") = some true) && decide (PySem.W.typeIn K (.ref (He.ga K x)) = some (.type "type")))) &&
      ((if Cl.fields = [] then PySem.W.excIn K (He.ga K x) He.veBase "ValueError.__new__" else true) && excB S K (He.ga K x) Cl S.cls 0)))
    else (tyB.all fun t => decide (PySem.W.kitOne K (.ref (He.ga K x)) (.type (tyNm t)) = some false)) && ((He.Fa.cls x).ok K && (insB K (He.ga K x) && upB S K (PySem.W.kitOne K) (He.ga K x) Cl S.cls 0))) &&
  (if Cl.init.isSome then (He.Fa.cls x).ok K && Cl.fields.all fun f => (He.Fa.noat x f).ok K else true)))
def clssB (S : Txt') (K : PySem.W.Frag) : Nat → List Str → List ClsM → Bool
  | _, [], [] => true
  | c, x :: xs, C :: Cs => clsB S K x c C && clssB S K (c + 1) xs Cs
  | _, _, _ => false
def ndB (P : Prog) : Bool := P.clss.all fun C => C.exc || (C.meths.lookup ("-" : Str)).isNone
def dcsB (K : PySem.W.Frag) : List Str → List (List (Int × Int)) → Bool
  | [], [] => true
  | x :: xs, D :: Ds => ((He.Fa.glo x).ok K && dcB K (He.ga K x) D) && dcsB K xs Ds
  | _, _ => false
def Txt'.ck (S : Txt') (K : PySem.W.Frag) : Bool := ((ndB S.P && ((S.ics.all fun p => (He.Fa.int p.1 p.2).ok K) && dcsB K S.dcs S.P.dcs)) && S.fs.all fun F => if F.d.at_.2.isNone then (He.Fa.glo F.d.at_.1).ok K && decide (F.kd = .fn) else true) && ((S.blts.all fun b => (He.Fa.free b).ok K) && clssB S K 0 S.cls S.P.clss)
section
variable {S : Txt'} {K : PySem.W.Frag} {base : Heap} {mg : Str → Option Value}
theorem clss_get : ∀ {c : Nat} {xs : List Str} {Cs : List ClsM}, clssB S K c xs Cs = true → ∀ {i : Nat} {C : ClsM}, Cs[i]? = some C → ∃ x, xs[i]? = some x ∧ clsB S K x (c + i) C = true
  | _, [], [], _, i, C, h => by simp at h
  | _, [], _ :: _, h, _, _, _ => by cases h
  | _, _ :: _, [], h, _, _, _ => by cases h
  | c, x :: xs, D :: Cs, h, i, C, hc => by
    obtain ⟨h1, h2⟩ := He.ba (show (clsB S K x c D && clssB S K (c + 1) xs Cs) = true from h)
    cases i with
    | zero =>
      simp at hc
      subst hc
      exact ⟨x, rfl, h1⟩
    | succ i =>
      obtain ⟨y, q1, q2⟩ := clss_get h2 (i := i) (C := C) (by simpa using hc)
      exact ⟨y, by simpa using q1, by rw [show c + (i + 1) = c + 1 + i by omega]; exact q2⟩
theorem up_get {q : Value → Value → Option Bool} {C : Addr} {Cl : ClsM} : ∀ {l : List Str} {j : Nat}, upB S K q C Cl l j = true → ∀ {i : Nat} {y : Str}, l[i]? = some y → q (.ref C) (.ref (He.ga K y)) = some (decide (j + i ∈ Cl.up))
  | [], j, _, i, y, h => by simp at h
  | z :: r, j, h, i, y, hy => by
    obtain ⟨h1, h2⟩ := He.ba (show (decide (q (.ref C) (.ref (He.ga K z)) = some (decide (j ∈ Cl.up))) && upB S K q C Cl r (j + 1)) = true from h)
    cases i with
    | zero =>
      simp at hy
      subst hy
      exact of_decide_eq_true h1
    | succ i =>
      have := up_get h2 (i := i) (y := y) (by simpa using hy)
      rw [this]
      congr 2
      rw [show j + 1 + i = j + (i + 1) by omega]
theorem exc_get {C : Addr} {Cl : ClsM} : ∀ {l : List Str} {j : Nat}, excB S K C Cl l j = true → ∀ {i : Nat} {y : Str} {Dl : ClsM}, l[i]? = some y → S.P.clss[j + i]? = some Dl → Dl.exc = true → PySem.W.exmOne K (.ref C) (.ref (He.ga K y)) = some (decide (j + i ∈ Cl.up))
  | [], j, _, i, y, _, h, _, _ => by simp at h
  | z :: r, j, h, i, y, Dl, hy, hD, he => by
    obtain ⟨h1, h2⟩ := He.ba (show ((match S.P.clss[j]? with
    | some Dl => if Dl.exc then decide (PySem.W.exmOne K (.ref C) (.ref (He.ga K z)) = some (decide (j ∈ Cl.up))) else true
    | none => true) && excB S K C Cl r (j + 1)) = true from h)
    cases i with
    | zero =>
      simp at hy
      subst hy
      rw [show j + 0 = j from rfl] at hD ⊢
      rw [hD] at h1
      simp only [he, if_true] at h1
      exact of_decide_eq_true h1
    | succ i =>
      have e : j + 1 + i = j + (i + 1) := by omega
      have := exc_get h2 (i := i) (y := y) (Dl := Dl) (by simpa using hy) (by rw [e]; exact hD) he
      rw [this, e]
/-- a class's facts -/
theorem cls_get (h : S.ck K = true) {c : Nat} {C : Addr} {Cl : ClsM} (hc : (S.glob K).cA c = some C) (hl : S.P.clss[c]? = some Cl) : ∃ x, S.cls[c]? = some x ∧ C = He.ga K x ∧ clsB S K x c Cl = true := by
  obtain ⟨_, h⟩ := He.ba h
  obtain ⟨_, h⟩ := He.ba h
  obtain ⟨x, h1, h2⟩ := clss_get h hl
  rw [Nat.zero_add] at h2
  have hc : (S.cls[c]?).map (He.ga K) = some C := hc
  rw [h1] at hc
  cases hc
  exact ⟨x, h1, rfl, h2⟩
theorem cls_len : ∀ {c : Nat} {xs : List Str} {Cs : List ClsM}, clssB S K c xs Cs = true → ∀ {i : Nat} {x : Str}, xs[i]? = some x → ∃ C, Cs[i]? = some C
  | _, [], [], _, i, x, h => by simp at h
  | _, [], _ :: _, h, _, _, _ => by cases h
  | _, _ :: _, [], h, _, _, _ => by cases h
  | c, x :: xs, D :: Cs, h, i, y, hc => by
    obtain ⟨h1, h2⟩ := He.ba (show (clsB S K x c D && clssB S K (c + 1) xs Cs) = true from h)
    cases i with
    | zero => exact ⟨D, rfl⟩
    | succ i =>
      obtain ⟨C, hC⟩ := cls_len h2 (i := i) (x := y) (by simpa using hc)
      exact ⟨C, by simpa using hC⟩
theorem cls_any (h : S.ck K = true) {c : Nat} {C : Addr} (hc : (S.glob K).cA c = some C) : ∃ Cl, S.P.clss[c]? = some Cl := by
  obtain ⟨_, h⟩ := He.ba h
  obtain ⟨_, h⟩ := He.ba h
  have hc : (S.cls[c]?).map (He.ga K) = some C := hc
  obtain ⟨x, h1, _⟩ := Option.map_eq_some_iff.mp hc
  exact cls_len h h1
theorem nm_mem {n : String} (h : n ∈ ["NoneType", "bool", "int", "str", "tuple", "list", "dict"]) : n ∈ nmB := h
theorem nm_mem6 {n : String} (h : n ∈ ["NoneType", "bool", "int", "str", "tuple", "list"]) : n ∈ nmB := by
  simp only [nmB, List.mem_cons, List.not_mem_nil, or_false] at h ⊢
  rcases h with h | h | h | h | h | h <;> simp [h]
theorem ty_mem {t : TyR} (h : ∀ c, t ≠ .cls c) : t ∈ tyB := by
  cases t with
  | cls c => exact absurd rfl (h c)
  | _ => simp [tyB]
theorem kit_ok (h : S.ck K = true) : KitG (S.glob K) where
  b2o := fun n hn c C hc => by
    obtain ⟨Cl, hl⟩ := cls_any h hc
    obtain ⟨x, _, rfl, h2⟩ := cls_get h hc hl
    obtain ⟨_, h2⟩ := He.ba h2
    obtain ⟨h3, _⟩ := He.ba h2
    exact of_decide_eq_true (List.all_eq_true.mp h3 n (nm_mem hn))
  o2b := fun t ht c C Cl hc hl he => by
    obtain ⟨x, _, rfl, h2⟩ := cls_get h hc hl
    obtain ⟨_, h2⟩ := He.ba h2
    obtain ⟨_, h2⟩ := He.ba h2
    obtain ⟨h2, _⟩ := He.ba h2
    rw [if_neg (by rw [he]; exact Bool.false_ne_true)] at h2
    obtain ⟨h3, _⟩ := He.ba h2
    exact of_decide_eq_true (List.all_eq_true.mp h3 t (ty_mem ht))
  ins := fun c C Cl hc hl he H a dx fs hH => by
    obtain ⟨x, _, rfl, h2⟩ := cls_get h hc hl
    obtain ⟨_, h2⟩ := He.ba h2
    obtain ⟨_, h2⟩ := He.ba h2
    obtain ⟨h2, _⟩ := He.ba h2
    rw [if_neg (by rw [he]; exact Bool.false_ne_true)] at h2
    obtain ⟨_, h2⟩ := He.ba h2
    obtain ⟨k1, h2⟩ := He.ba h2
    obtain ⟨k2, _⟩ := He.ba h2
    obtain ⟨i1, i2⟩ := He.ba k2
    obtain ⟨i2, i3⟩ := He.ba i2
    obtain ⟨i3, i4⟩ := He.ba i3
    exact .ins hH (He.cls_ok k1) (of_decide_eq_true i1) (of_decide_eq_true i2) (of_decide_eq_true i3) (of_decide_eq_true i4)
  o2o := fun c d C D Cl hc hd hl he => by
    obtain ⟨x, _, rfl, h2⟩ := cls_get h hc hl
    obtain ⟨_, h2⟩ := He.ba h2
    obtain ⟨_, h2⟩ := He.ba h2
    obtain ⟨h2, _⟩ := He.ba h2
    rw [if_neg (by rw [he]; exact Bool.false_ne_true)] at h2
    obtain ⟨_, h2⟩ := He.ba h2
    obtain ⟨_, h2⟩ := He.ba h2
    obtain ⟨_, k⟩ := He.ba h2
    have hd : (S.cls[d]?).map (He.ga K) = some D := hd
    obtain ⟨y, hy, rfl⟩ := Option.map_eq_some_iff.mp hd
    have := up_get k hy
    rw [Nat.zero_add] at this
    exact this
theorem excG_ok (h : S.ck K = true) : ExcG (S.glob K) where
  exm := fun c d C D Cl Dl hc hd hl hm he hf => by
    obtain ⟨x, _, rfl, h2⟩ := cls_get h hc hl
    obtain ⟨_, h2⟩ := He.ba h2
    obtain ⟨_, h2⟩ := He.ba h2
    obtain ⟨h2, _⟩ := He.ba h2
    rw [if_pos he] at h2
    obtain ⟨_, h2⟩ := He.ba h2
    obtain ⟨_, h2⟩ := He.ba h2
    obtain ⟨_, h2⟩ := He.ba h2
    obtain ⟨_, h2⟩ := He.ba h2
    have hd : (S.cls[d]?).map (He.ga K) = some D := hd
    obtain ⟨y, hy, rfl⟩ := Option.map_eq_some_iff.mp hd
    have := exc_get h2 (i := d) (y := y) (Dl := Dl) hy (by rw [Nat.zero_add]; exact hm) hf
    rw [Nat.zero_add] at this
    exact this
  fld := fun c C Cl hc hl he => by
    obtain ⟨x, _, rfl, h2⟩ := cls_get h hc hl
    obtain ⟨_, h2⟩ := He.ba h2
    obtain ⟨_, h2⟩ := He.ba h2
    obtain ⟨h2, _⟩ := He.ba h2
    rw [if_pos he] at h2
    obtain ⟨h3, h2⟩ := He.ba h2
    obtain ⟨h4, _⟩ := He.ba h2
    exact ⟨xfB_ok h3, fun f hf => of_decide_eq_true (List.all_eq_true.mp h4 f hf)⟩
  own := fun c C Cl hc hl he => by
    obtain ⟨x, _, rfl, h2⟩ := cls_get h hc hl
    obtain ⟨_, h2⟩ := He.ba h2
    obtain ⟨_, h2⟩ := He.ba h2
    obtain ⟨h2, _⟩ := He.ba h2
    rw [if_pos he] at h2
    obtain ⟨_, h2⟩ := He.ba h2
    obtain ⟨_, h2⟩ := He.ba h2
    obtain ⟨h5, _⟩ := He.ba h2
    obtain ⟨h6, h5⟩ := He.ba h5
    obtain ⟨h7, h8⟩ := He.ba h5
    exact ⟨h6, of_decide_eq_true h7, of_decide_eq_true h8⟩
  new := fun c C Cl hc hl he hf => by
    obtain ⟨x, _, rfl, h2⟩ := cls_get h hc hl
    obtain ⟨_, h2⟩ := He.ba h2
    obtain ⟨_, h2⟩ := He.ba h2
    obtain ⟨h2, _⟩ := He.ba h2
    rw [if_pos he] at h2
    obtain ⟨_, h2⟩ := He.ba h2
    obtain ⟨_, h2⟩ := He.ba h2
    obtain ⟨_, h2⟩ := He.ba h2
    obtain ⟨h3, _⟩ := He.ba h2
    rw [if_pos hf] at h3
    exact h3
theorem fld_ok (h : S.ck K = true) : ∀ d C Cl, (S.glob K).cA d = some C → S.P.clss[d]? = some Cl → Cl.init.isSome = true → L2.Cls K C ∧ ∀ f ∈ Cl.fields, NoAttr K C f := fun d C Cl hc hl hi => by
  obtain ⟨x, _, rfl, h2⟩ := cls_get h hc hl
  obtain ⟨_, h2⟩ := He.ba h2
  obtain ⟨_, h2⟩ := He.ba h2
  obtain ⟨_, h2⟩ := He.ba h2
  rw [if_pos hi] at h2
  obtain ⟨h3, h4⟩ := He.ba h2
  exact ⟨He.cls_ok h3, fun f hf => He.noat_ok (List.all_eq_true.mp h4 f hf)⟩
theorem clsn_ok (hin : K.In base) (hns : base.Ns mainGlobals mg) (h : S.ck K = true) : ∀ x j, (numb S.cls 0).lookup x = some j → ∃ C, (S.glob K).cA j = some C ∧ mg x = some (.ref C) := fun x j hj => by
  obtain ⟨i, h1, h2⟩ := numb_ok hj
  rw [Nat.zero_add] at h1
  subst h1
  have hc : (S.glob K).cA j = some (He.ga K x) := by
    show (S.cls[j]?).map _ = _
    rw [h2]
    rfl
  obtain ⟨Cl, hl⟩ := cls_any h hc
  obtain ⟨y, q1, q2, q3⟩ := cls_get h hc hl
  rw [h2] at q1
  cases q1
  exact ⟨_, hc, He.glo_ok hin hns (He.ba (He.ba q3).1).1⟩
theorem blt_ok (hin : K.In base) (hns : base.Ns mainGlobals mg) (h : S.ck K = true) : ∀ x, x ∈ S.blts → mg x = none := fun x hx => by
  obtain ⟨_, h⟩ := He.ba h
  obtain ⟨h, _⟩ := He.ba h
  exact He.free_ok hin hns (List.all_eq_true.mp h x hx)
theorem glo_of (hin : K.In base) (hns : base.Ns mainGlobals mg) (h : S.ck K = true) {f : Nat} {F : FS} (hf : S.fs[f]? = some F) (hg : F.d.at_.2 = none) : mg F.d.at_.1 = some (.ref (He.fAd K F.d.at_)) := by
  obtain ⟨h, _⟩ := He.ba h
  obtain ⟨_, h⟩ := He.ba h
  have := List.all_eq_true.mp h F (List.mem_of_getElem? hf)
  rw [hg] at this
  have := He.glo_ok hin hns (He.ba (show ((He.Fa.glo F.d.at_.1).ok K && decide (F.kd = .fn)) = true from this)).1
  rw [this]
  show _ = some (Value.ref (He.fAd K F.d.at_))
  unfold He.fAd
  rw [hg]
theorem kd_of (h : S.ck K = true) {f : Nat} {F : FS} (hf : S.fs[f]? = some F) (hg : F.d.at_.2 = none) : F.kd = .fn := by
  obtain ⟨h, _⟩ := He.ba h
  obtain ⟨_, h⟩ := He.ba h
  have := List.all_eq_true.mp h F (List.mem_of_getElem? hf)
  rw [hg] at this
  exact of_decide_eq_true (He.ba (show ((He.Fa.glo F.d.at_.1).ok K && decide (F.kd = .fn)) = true from this)).2
theorem lookup_mem {α : Type} {m : Str} {v : α} : ∀ {l : List (Str × α)}, l.lookup m = some v → (m, v) ∈ l
  | [], h => by cases h
  | (n, w) :: r, h => by
    rw [List.lookup_cons] at h
    split at h
    · rename_i e
      cases h
      rw [eq_of_beq e]
      exact List.mem_cons_self ..
    · exact List.mem_cons_of_mem _ (lookup_mem h)
theorem ics_ok (hin : K.In base) (hns : base.Ns mainGlobals mg) (h : S.ck K = true) : ∀ x i, S.ics.lookup x = some i → ∃ t, mg x = some (.int i t) := fun x i hx => by
  obtain ⟨h, _⟩ := He.ba h
  obtain ⟨h, _⟩ := He.ba h
  obtain ⟨_, h⟩ := He.ba h
  obtain ⟨h, _⟩ := He.ba h
  exact He.int_ok hin hns (List.all_eq_true.mp h (x, i) (lookup_mem hx))
theorem dcs_get {K : PySem.W.Frag} : ∀ {xs : List Str} {Ds : List (List (Int × Int))}, dcsB K xs Ds = true → ∀ {j : Nat} {x : Str}, ixOf x xs = some j → ∃ D, Ds[j]? = some D ∧ (He.Fa.glo x).ok K = true ∧ dcB K (He.ga K x) D = true
  | [], _, _, j, x, h => by cases h
  | _ :: _, [], h, _, _, _ => by cases h
  | y :: ys, D :: Ds, h, j, x, hx => by
    obtain ⟨h1, h2⟩ := He.ba (show (((He.Fa.glo y).ok K && dcB K (He.ga K y) D) && dcsB K ys Ds) = true from h)
    unfold ixOf at hx
    split at hx
    · rename_i e
      cases hx
      subst e
      obtain ⟨h3, h4⟩ := He.ba h1
      exact ⟨D, rfl, h3, h4⟩
    · obtain ⟨i, q1, rfl⟩ := Option.map_eq_some_iff.mp hx
      obtain ⟨E, q2, q3⟩ := dcs_get h2 q1
      exact ⟨E, by simpa using q2, q3⟩
theorem dcs_ok (hin : K.In base) (hns : base.Ns mainGlobals mg) (h : S.ck K = true) : ∀ x j, ixOf x S.dcs = some j → ∃ D kvs, mg x = some (.ref D) ∧ S.P.dcs[j]? = some kvs ∧ dcB K D kvs = true := fun x j hx => by
  obtain ⟨h, _⟩ := He.ba h
  obtain ⟨h, _⟩ := He.ba h
  obtain ⟨_, h⟩ := He.ba h
  obtain ⟨_, h⟩ := He.ba h
  obtain ⟨D, h1, h2, h3⟩ := dcs_get h hx
  exact ⟨_, D, He.glo_ok hin hns h2, h1, h3⟩
theorem nodash_ok (h : S.ck K = true) : ∀ j, methOf S.P j "-" = none := fun j => by
  obtain ⟨h, _⟩ := He.ba h
  obtain ⟨h, _⟩ := He.ba h
  obtain ⟨h, _⟩ := He.ba h
  unfold methOf
  cases hc : S.P.clss[j]? with
  | none => rfl
  | some C =>
    have := List.all_eq_true.mp h C (List.mem_of_getElem? hc)
    rw [Option.bind_some]
    rw [Bool.or_eq_true] at this
    split
    · rfl
    · rename_i he
      rcases this with z | z
      · exact absurd z he
      · exact Option.isNone_iff_eq_none.mp z
theorem obj_get (h : S.ck K = true) {c : Nat} {C : Addr} {Cl : ClsM} (hc : (S.glob K).cA c = some C) (hl : S.P.clss[c]? = some Cl) : ∃ x, S.cls[c]? = some x ∧ C = He.ga K x ∧ (Cl.exc = false → objB S K x Cl = true) ∧ iniB S K x c Cl = true ∧ xcB S K x c Cl = true := by
  obtain ⟨x, h1, h2, h3⟩ := cls_get h hc hl
  obtain ⟨h3, _⟩ := He.ba h3
  obtain ⟨_, h3⟩ := He.ba h3
  obtain ⟨h4, h3⟩ := He.ba h3
  obtain ⟨h5, h6⟩ := He.ba h3
  refine ⟨x, h1, h2, fun he => ?_, h5, h6⟩
  rw [if_neg (by rw [he]; exact Bool.false_ne_true)] at h4
  exact h4
theorem objk_ok (h : S.ck K = true) : ObjK (S.glob K) where
  cls := fun c C Cl hc hl he => by
    obtain ⟨x, _, rfl, h2, _⟩ := obj_get h hc hl
    obtain ⟨q1, q⟩ := He.ba (h2 he)
    obtain ⟨q2, q⟩ := He.ba q
    obtain ⟨q3, q⟩ := He.ba q
    exact ⟨He.cls_ok q1, q2, fun n hn => of_decide_eq_true (List.all_eq_true.mp q3 n (nm_mem6 hn))⟩
  meth := fun c C Cl m f hc hl he hm => by
    obtain ⟨x, _, rfl, h2, _⟩ := obj_get h hc hl
    obtain ⟨_, q⟩ := He.ba (h2 he)
    obtain ⟨_, q⟩ := He.ba q
    obtain ⟨_, q⟩ := He.ba q
    obtain ⟨_, q⟩ := He.ba q
    obtain ⟨q, _⟩ := He.ba q
    have := List.all_eq_true.mp q (m, f) (lookup_mem hm)
    obtain ⟨w1, w⟩ := He.ba this
    obtain ⟨w2, w⟩ := He.ba w
    split at w
    · rename_i F hF
      obtain ⟨w3, w4⟩ := He.ba w
      have w3 := of_decide_eq_true w3
      have w4 := of_decide_eq_true w4
      refine ⟨He.fAd K F.d.at_, ?_, ?_, by simpa using w2⟩
      · show (match S.fs[f]? with
          | some F => if F.kd = FK.fn then some (He.fAd K F.d.at_) else none
          | none => none) = _
        rw [hF]
        simp only [w4, if_true]
      · rw [w3]
        exact He.meth_ok w1
    · cases w
  sub := fun c d C D Cl Dl hc hd hl hm he hf => by
    obtain ⟨x, _, rfl, h2, _⟩ := obj_get h hd hm
    obtain ⟨_, q⟩ := He.ba (h2 hf)
    obtain ⟨_, q⟩ := He.ba q
    obtain ⟨_, q⟩ := He.ba q
    obtain ⟨_, q⟩ := He.ba q
    obtain ⟨_, q⟩ := He.ba q
    obtain ⟨_, q⟩ := He.ba q
    obtain ⟨_, q⟩ := He.ba q
    obtain ⟨_, q⟩ := He.ba q
    have hc : (S.cls[c]?).map (He.ga K) = some C := hc
    obtain ⟨y, hy, rfl⟩ := Option.map_eq_some_iff.mp hc
    have := up_get q hy
    rw [Nat.zero_add] at this
    exact this
  ne := fun c C Cl hc hl he hn => by
    obtain ⟨x, _, rfl, h2, _⟩ := obj_get h hc hl
    obtain ⟨_, q⟩ := He.ba (h2 he)
    obtain ⟨_, q⟩ := He.ba q
    obtain ⟨_, q⟩ := He.ba q
    obtain ⟨_, q⟩ := He.ba q
    obtain ⟨_, q⟩ := He.ba q
    obtain ⟨q, _⟩ := He.ba q
    rw [hn, if_pos (show (none : Option Nat).isNone = true from rfl)] at q
    exact of_decide_eq_true q
  obj := fun c C Cl hc hl he => by
    obtain ⟨x, _, rfl, h2, _⟩ := obj_get h hc hl
    obtain ⟨_, q⟩ := He.ba (h2 he)
    obtain ⟨_, q⟩ := He.ba q
    obtain ⟨_, q⟩ := He.ba q
    obtain ⟨_, q⟩ := He.ba q
    obtain ⟨_, q⟩ := He.ba q
    obtain ⟨_, q⟩ := He.ba q
    obtain ⟨q, _⟩ := He.ba q
    exact of_decide_eq_true q
  fmt := fun c C Cl hc hl he => by
    obtain ⟨x, _, rfl, h2, _⟩ := obj_get h hc hl
    obtain ⟨_, q⟩ := He.ba (h2 he)
    obtain ⟨_, q⟩ := He.ba q
    obtain ⟨_, q⟩ := He.ba q
    obtain ⟨_, q⟩ := He.ba q
    obtain ⟨_, q⟩ := He.ba q
    obtain ⟨_, q⟩ := He.ba q
    obtain ⟨_, q⟩ := He.ba q
    obtain ⟨q, _⟩ := He.ba q
    exact of_decide_eq_true q
  refl := fun c C Cl hc hl he op ho => by
    obtain ⟨x, _, rfl, h2, _⟩ := obj_get h hc hl
    obtain ⟨_, q⟩ := He.ba (h2 he)
    obtain ⟨_, q⟩ := He.ba q
    obtain ⟨_, q⟩ := He.ba q
    obtain ⟨q3, q⟩ := He.ba q
    exact of_decide_eq_true (List.all_eq_true.mp q3 op ho)
/-- a class's __init__ -/
theorem ini_get (h : S.ck K = true) {c i : Nat} {C : Addr} {Cl : ClsM} (hc : (S.glob K).cA c = some C) (hl : S.P.clss[c]? = some Cl) (hi : Cl.init = some i) : ∃ F, S.fs[i]? = some F ∧ F.kd = .ini c ∧ Cl.exc = false ∧ Mk K C (He.fAd K F.d.at_) ∧ Cl.fields.Nodup ∧ Cl.fields.length < 1000 := by
  obtain ⟨x, _, rfl, _, h2, _⟩ := obj_get h hc hl
  unfold iniB at h2
  rw [hi] at h2
  simp only at h2
  obtain ⟨h3, h2⟩ := He.ba h2
  obtain ⟨h4, h2⟩ := He.ba h2
  obtain ⟨h5, h2⟩ := He.ba h2
  obtain ⟨h6, h7⟩ := He.ba h2
  split at h5
  · rename_i F hF
    obtain ⟨w3, w4⟩ := He.ba h5
    refine ⟨F, hF, of_decide_eq_true w4, by simpa using h3, ?_, of_decide_eq_true h6, of_decide_eq_true h7⟩
    rw [of_decide_eq_true w3]
    exact He.mkr_ok h4
  · cases h5
/-- an exception's __init__ -/
theorem xc_get (h : S.ck K = true) {c : Nat} {C : Addr} {Cl : ClsM} {f : Str} (hc : (S.glob K).cA c = some C) (hl : S.P.clss[c]? = some Cl) (he : Cl.exc = true) (hf : Cl.fields = [f]) :
    ∃ (i : Nat) (F : FS) (B : Str), S.fs[i]? = some F ∧ F.kd = .xin c f B ∧ OexC K C ∧ PySem.W.findIn K (.ref C) "__init__" = some (some (.ref (He.fAd K F.d.at_))) ∧ PySem.W.typeIn K (.ref (He.fAd K F.d.at_)) = some (.type "function") ∧
      (He.Fa.glo B).ok K = true ∧ ClX.CRead K (He.ga K B) (.type "type") ∧ PySem.W.findCls K (.ref (He.ga K B)) (.type "type") "__init__" = some (.val (.builtin "ValueError.__init__")) := by
  obtain ⟨x, _, rfl, _, _, h2⟩ := obj_get h hc hl
  unfold xcB at h2
  rw [hf] at h2
  simp only [he, if_true] at h2
  obtain ⟨h3, h2⟩ := He.ba h2
  obtain ⟨F, hm, h4⟩ := List.any_eq_true.mp h2
  obtain ⟨i, hi⟩ := List.mem_iff_getElem?.mp hm
  split at h4
  · rename_i c' f' B hk
    obtain ⟨w1, h4⟩ := He.ba h4
    obtain ⟨w2, h4⟩ := He.ba h4
    obtain ⟨w3, h4⟩ := He.ba h4
    obtain ⟨w4, h4⟩ := He.ba h4
    obtain ⟨w5, h4⟩ := He.ba h4
    obtain ⟨w6, h4⟩ := He.ba h4
    obtain ⟨w7, h4⟩ := He.ba h4
    obtain ⟨w8, w9⟩ := He.ba h4
    have w1 := of_decide_eq_true w1
    have w2 := of_decide_eq_true w2
    subst w1 w2
    refine ⟨i, F, B, hi, hk, oexB_ok h3, of_decide_eq_true w4, of_decide_eq_true w5, w6, ⟨w7, of_decide_eq_true w8⟩, ?_⟩
    split at w9
    · rename_i v hv
      rw [hv, eq_of_beq w9]
    · cases w9
  · cases h4
end
end Mch

/-! ## Every def of a text does what the machine says; the law -/
namespace Mch
open PySem PySem.Spec PyProof.Rows L2
def fnScB (N ps : List Str) (sc : Scope) : Bool := decide (sc.kind = .function) && (!sc.isCoroutine && (!sc.isGenerator && (decide N.Nodup && (decide (N.take ps.length = ps) && ((ps.all fun x => decide (sc.names.lookup x = some .local) || decide (sc.names.lookup x = some .cell)) && sc.names.all fun y => !decide (y.2 = .free))))))
theorem fnSc_ok {N ps : List Str} {sc : Scope} (h : fnScB N ps sc = true) : FnScope N ps sc := by
  unfold fnScB at h
  simp only [Bool.and_eq_true, decide_eq_true_eq, Bool.not_eq_true', List.all_eq_true, Bool.or_eq_true, decide_eq_false_iff_not] at h
  obtain ⟨h1, h2, h3, h4, h5, h6, h7⟩ := h
  exact ⟨h1, h2, h3, h4, h5, h6, h7⟩
def BindP (F : FS) : Prop := ∀ (K : PySem.W.Frag) (fd : FuncData) (f : Addr), FunD K F.d.name F.d.qual F.d.params F.d.body F.d.scope (F.d.dvs K) (F.d.kws K) f fd → ∀ m, m ≤ (F.d.dvs K).length → ∃ ds, Vals ((F.d.dvs K).drop m) ds ∧ Binds K fd F.ps ds
theorem bind0 {F : FS} (h1 : F.d.dfl = []) (h2 : F.d.kwd = []) (h : ∀ (kV doc pm : Value) (an : Option Addr) (cdv ct : Value) (us : List Value), us.length = F.ps.length → bindArgs (PySem.W.fnOf F.d.name F.d.qual F.d.params F.d.body F.d.scope .none kV doc pm an cdv ct) ⟨us, []⟩ = pure (F.ps.zip us)) : BindP F := by
  intro K fd f hF m hm
  have e1 : F.d.dvs K = [] := by unfold He.DefD.dvs; rw [h1]; rfl
  have e2 : F.d.kws K = [] := by unfold He.DefD.kws; rw [h2]; rfl
  rw [e1, e2] at hF
  rw [e1]
  exact ⟨[], by simpa using (Paired.nil : Paired RelV [] []), hF.bindsN h⟩
/-- one with defaults -/
theorem bindD {F : FS} (h2 : F.d.kwd = []) (hd : F.d.dfl ≠ []) (hl : F.d.dfl.length ≤ F.ps.length) (h : ∀ j, j ≤ F.d.dfl.length → ∀ (T : Addr) (kV doc pm : Value) (an : Option Addr) (cdv ct : Value) (us its : List Value), us.length = F.ps.length - (F.d.dfl.length - j) → its.length = F.d.dfl.length →
      ∃ k, bindArgs (PySem.W.fnOf F.d.name F.d.qual F.d.params F.d.body F.d.scope (.ref T) kV doc pm an cdv ct) ⟨us, []⟩ = seqItems? (.ref T) >>= k ∧ k (some its.toArray) = pure (F.ps.zip (us ++ its.drop j))) : BindP F := by
  intro K fd f hF m hm
  have e2 : F.d.kws K = [] := by unfold He.DefD.kws; rw [h2]; rfl
  have e1 : (F.d.dvs K).length = F.d.dfl.length := by unfold He.DefD.dvs; rw [List.length_map]
  rw [e2] at hF
  refine hF.binds1 (F.ps.length - (F.d.dfl.length - m)) m (fun z => ?_) (by omega) fun T kV doc pm an cdv ct us its h3 h4 => h m (by omega) T kV doc pm an cdv ct us its h3 (by omega)
  rw [z] at e1
  exact hd (List.length_eq_zero_iff.mp e1.symm)
def FK.isX : FK → Bool
  | .xin _ _ _ => true
  | _ => false
structure CmpP (S : Txt') (F : FS) (D : Def) : Prop where
  body : F.kd.isX = false → mapO (compS 40 (S.cfg F)) F.d.body = some D.body
  xin : ∀ c f B, F.kd = .xin c f B → xinB F.N f B F.d.body = true ∧ isVisB F.d.scope F.N = true ∧ F.d.scope.names.lookup B = some .globalImplicit ∧ (B == ("__debug__" : Str)) = false ∧ F.N.length = 2 ∧ F.ps = F.N ∧ F.d.dfl = []
  np : D.np = F.ps.length
  ns : D.ns = F.N.length
  dfl : mapO dvM F.d.dfl = some D.dfl
  kwd : F.d.kwd = []
  sc : fnScB F.N F.ps F.d.scope = true
def AllC (S : Txt') : List FS → List Def → Prop
  | [], [] => True
  | F :: Fs, D :: Ds => CmpP S F D ∧ AllC S Fs Ds
  | _, _ => False
def AllB : List FS → Prop
  | [] => True
  | F :: Fs => BindP F ∧ AllB Fs
theorem allC_get {S : Txt'} : ∀ {Fs : List FS} {Ds : List Def}, AllC S Fs Ds → ∀ {f : Nat} {F : FS}, Fs[f]? = some F → ∃ D, Ds[f]? = some D ∧ CmpP S F D
  | [], [], _, f, F, h => by simp at h
  | [], _ :: _, h, _, _, _ => h.elim
  | _ :: _, [], h, _, _, _ => h.elim
  | F :: Fs, D :: Ds, h, f, G, hf => by
    cases f with
    | zero =>
      simp at hf
      subst hf
      exact ⟨D, rfl, h.1⟩
    | succ f =>
      obtain ⟨E, h1, h2⟩ := allC_get h.2 (f := f) (F := G) (by simpa using hf)
      exact ⟨E, by simpa using h1, h2⟩
theorem allB_get : ∀ {Fs : List FS}, AllB Fs → ∀ {f : Nat} {F : FS}, Fs[f]? = some F → BindP F
  | [], _, f, F, h => by simp at h
  | F :: Fs, h, f, G, hf => by
    cases f with
    | zero =>
      simp at hf
      subst hf
      exact h.1
    | succ f => exact allB_get h.2 (f := f) (F := G) (by simpa using hf)
theorem dv_ok {g : Glob} {K : PySem.W.Frag} : ∀ {ds : List He.Dv} {xs : List MV}, mapO dvM ds = some xs → ∀ φ G, RVs g φ G xs (ds.map (He.Dv.v K))
  | [], xs, h, φ, G => by
    simp only [mapO, Option.some.injEq] at h
    subst h
    exact rvs_nil
  | d :: ds, xs, h, φ, G => by
    simp only [mapO] at h
    split at h
    · rename_i x xs' h1 h2
      cases h
      refine rvs_cons ?_ (dv_ok h2 φ G)
      cases d <;> simp only [dvM, Option.some.injEq, reduceCtorEq] at h1 <;> subst h1 <;> simp only [RV, He.Dv.v]
    · cases h
section
variable {g : Glob} {T : Tab} {D : Def}
theorem full_eq {xs : List MV} (h : xs.length = D.np) : fullArgs D xs = xs := by
  unfold fullArgs
  rw [h, Nat.sub_self, Nat.sub_zero, List.drop_length, List.append_nil]
theorem slots_ok {φ : List Addr} {G H : Hp} {xs : List MV} {vs : List V} {N : List Str} (h : RVs g φ G xs vs) (hn : D.ns = N.length) : RSt g φ G H .no (slots D xs) (L2.start N vs) := by
  refine ⟨⟨?_, fun i v e _ => ?_⟩, trivial⟩
  · unfold slots L2.start
    rw [List.length_append, List.length_append, List.length_map, List.length_map, List.length_replicate, List.length_replicate, h.len, hn]
  · unfold slots at e
    unfold L2.start
    by_cases hi : i < xs.length
    · rw [List.getElem?_append_left (by simpa using hi), List.getElem?_map] at e
      cases e1 : xs[i]? with
      | none => rw [e1] at e; cases e
      | some x =>
        rw [e1] at e
        simp only [Option.map_some, Option.some.injEq] at e
        subst e
        obtain ⟨w, h1, h2⟩ := h.get e1
        exact ⟨w, by rw [List.getElem?_append_left (by simp [← h.len]; exact hi), List.getElem?_map, h1]; rfl, h2⟩
    · rw [List.getElem?_append_right (by simpa using hi), List.getElem?_replicate] at e
      split at e <;> cases e
theorem run_ok {φ : List Addr} {G H : Hp} {μ : Mem} {xs : List MV} {vs : List V} {N : List Str} {Q : VK} {Ex : XK} (sb : Sub G H) (r : Rel g φ G μ) (h : RVs g φ G xs vs) (hn : D.ns = N.length) (hl : xs.length = D.np)
    (hg : Good g (fun cls dd _ H1 => Ex cls dd H1) [] φ G H (runD T D xs μ) (kE g Q)) : tR g (fun cls dd _ H1 => Ex cls dd H1) .no (evB T D.body) { nx := fun _ H' => Q .non H', rt := Q } (L2.start N vs) H := by
  refine ⟨φ, G, μ, slots D xs, sb, r, slots_ok h hn, ?_⟩
  unfold runD at hg
  rw [full_eq hl, if_pos hl] at hg
  revert hg
  cases evB T D.body (slots D xs) μ with
  | no => exact fun hg => hg
  | exc x σ μ1 => exact fun hg φ1 G1 H1 σ' e1 r1 _ => hg φ1 G1 H1 e1 r1
  | ok f μ1 => cases f with
    | next σ => exact fun hg φ1 G1 H1 σ' e1 r1 _ => hg φ1 G1 H1 e1 r1 _ (by simp only [RV])
    | ret v => exact fun hg φ1 G1 H1 w e1 r1 hw => hg φ1 G1 H1 e1 r1 w hw
    | brk σ => exact fun hg => hg.elim
    | cnt σ => exact fun hg => hg.elim
theorem slots_ini {φ : List Addr} {G H : Hp} {x C dx : Addr} {c : Nat} {Cl : ClsM} {xs : List MV} {vs : List V} {N : List Str} (h : RVs g φ G xs vs) (hn : D.ns = N.length) (hx : H x = some (.ins C dx [])) (hg : G x = none) (hc : g.cA c = some C) (hl : g.P.clss[c]? = some Cl) :
    RSt g φ G H (.ini x) (slots D (.obj c [] :: xs)) (L2.start N (.ref x :: vs)) := by
  have h0 := (slots_ok (g := g) (φ := φ) (G := G) (H := H) (xs := .non :: xs) (vs := .non :: vs) (N := N) (rvs_cons (by simp only [RV]) h) hn).env
  have e1 : ∀ (o : MV), slots D (o :: xs) = some o :: (xs.map some ++ List.replicate (D.ns - (xs.length + 1)) none) := fun o => rfl
  have e2 : ∀ (o : V), L2.start N (o :: vs) = some o :: (vs.map some ++ List.replicate (N.length - (vs.length + 1)) none) := fun o => rfl
  rw [e1, e2] at h0
  rw [e1, e2]
  refine ⟨⟨by simpa using h0.1, fun i v e3 e4 => ?_⟩, ⟨C, dx, [], c, [], Cl, rfl, hx, hg, rfl, hc, hl, rfl, rvs_nil⟩⟩
  cases i with
  | zero => simp [Md.ex] at e4
  | succ i => exact h0.2 (i + 1) v e3 rfl
theorem run_ini {φ : List Addr} {G H : Hp} {μ : Mem} {x C dx : Addr} {c : Nat} {Cl : ClsM} {xs : List MV} {vs : List V} {N : List Str} {Q : VK} {Ex : XK} (sb : Sub G H) (r : Rel g φ G μ) (h : RVs g φ G xs vs) (hn : D.ns = N.length) (hl : xs.length + 1 = D.np) (hx : H x = some (.ins C dx [])) (hg : G x = none) (hc : g.cA c = some C) (hcl : g.P.clss[c]? = some Cl)
    (hgood : GoodI g x C c Cl.fields φ G H Q Ex (runI T c Cl.fields.length D xs μ)) : tR g (fun cls dd _ H1 => Ex cls dd H1) (.ini x) (evB T D.body) { nx := fun _ H' => Q .non H', rt := Q } (L2.start N (.ref x :: vs)) H := by
  refine ⟨φ, G, μ, _, sb, r, slots_ini (c := c) (Cl := Cl) h hn hx hg hc hcl, ?_⟩
  unfold runI at hgood
  rw [full_eq (by simpa using hl), if_pos (by simpa using hl)] at hgood
  revert hgood
  cases evB T D.body (slots D (.obj c [] :: xs)) μ with
  | no => exact fun hg => hg
  | exc x' σ μ1 => exact fun hg φ1 G1 H1 σ' e1 r1 _ => hg φ1 G1 H1 e1 r1
  | ok f μ1 => cases f with
    | next σ =>
      intro hg φ1 G1 H1 σ' e1 r1 st
      obtain ⟨C', dx', fs, c', ws, Cl', s1, s2, s3, s4, s5, s6, s7, s8⟩ := st.self
      simp only [s4] at hg
      split at hg
      · rename_i hcc
        obtain ⟨rfl, hlen⟩ := hcc
        rw [hc] at s5
        cases s5
        rw [hcl] at s6
        cases s6
        exact hg φ1 G1 H1 ws dx' fs e1 r1 rfl s2 s3 (by rw [s7, hlen, List.take_length]) s8
      · exact hg.elim
    | ret v => exact fun hg => hg.elim
    | brk σ => exact fun hg => hg.elim
    | cnt σ => exact fun hg => hg.elim
theorem nm_get {S : Txt'} {x : Str} {f : Nat} (hx : x ≠ "") (h : ixOf x (S.fs.map FS.nm) = some f) : ∃ F, S.fs[f]? = some F ∧ F.d.at_.2 = none ∧ F.d.at_.1 = x := by
  have h := ixOf_get h
  rw [List.getElem?_map] at h
  obtain ⟨F, h1, h2⟩ := Option.map_eq_some_iff.mp h
  refine ⟨F, h1, ?_⟩
  unfold FS.nm at h2
  split at h2
  · exact ⟨by assumption, h2⟩
  · exact absurd h2.symm hx
section
variable {S : Txt'} {P : Program} {w : World} {K : PySem.W.Frag} {mg : Str → Option Value} {base : Heap} {n d : Nat}
theorem tabP (n d : Nat) : (tabD S.P n d).P = S.P := by cases d <;> rfl
theorem call_is {f : Nat} (hD : S.P.defs[f]? = some D) (xs : List MV) (μ : Mem) : (tabD S.P n (d + 1)).call f xs μ = runD (tabD S.P n d) D xs μ := by
  show (match S.P.defs[f]? with
    | some D => runD (tabD S.P n d) D xs μ
    | none => .no) = _
  rw [hD]
theorem call_full {f : Nat} (hD : S.P.defs[f]? = some D) (xs : List MV) (μ : Mem) (h : (fullArgs D xs).length = D.np) : (tabD S.P n d).call f xs μ = (tabD S.P n d).call f (fullArgs D xs) μ := by
  cases d with
  | zero => rfl
  | succ d =>
    rw [call_is hD, call_is hD]
    unfold runD
    rw [full_eq h]
theorem call_np {f : Nat} (hD : S.P.defs[f]? = some D) (xs : List MV) (μ : Mem) (z : (tabD S.P n d).call f xs μ ≠ .no) : (fullArgs D xs).length = D.np := by
  cases d with
  | zero => exact absurd rfl z
  | succ d =>
    rw [call_is hD] at z
    unfold runD at z
    by_cases e : (fullArgs D xs).length = D.np
    · exact e
    · rw [if_neg e] at z
      exact absurd rfl z
theorem glob_fA {f : Nat} {F : FS} (hF : S.fs[f]? = some F) (ha : F.d.at_.2 = none) : (S.glob K).fA f = some (He.fAd K F.d.at_) := by
  show (match S.fs[f]? with
    | some F => if F.d.at_.2.isNone then some (He.fAd K F.d.at_) else none
    | none => none) = _
  rw [hF]
  simp [ha]
theorem make_is {c i : Nat} {Cl : ClsM} (hl : S.P.clss[c]? = some Cl) (hi : Cl.init = some i) (hD : S.P.defs[i]? = some D) (xs : List MV) (μ : Mem) : (tabD S.P n (d + 1)).make c xs μ = runI (tabD S.P n d) c Cl.fields.length D xs μ := by
  show (match S.P.clss[c]? with
      | some C => (match C.init.bind fun i => S.P.defs[i]? with
        | some D => runI (tabD S.P n d) c C.fields.length D xs μ
        | none => .no)
      | none => .no) = _
  rw [hl]
  simp only [hi, Option.bind_some, hD]
theorem full_cons {D : Def} {o : MV} {xs : List MV} : fullArgs D (o :: xs) = o :: (xs ++ D.dfl.drop (D.dfl.length - (D.np - (xs.length + 1)))) := by
  unfold fullArgs
  rfl
theorem make_full {c i : Nat} {Cl : ClsM} (hl : S.P.clss[c]? = some Cl) (hi : Cl.init = some i) (hD : S.P.defs[i]? = some D) (xs : List MV) (μ : Mem) (z : (tabD S.P n d).make c xs μ ≠ .no) :
    (xs ++ D.dfl.drop (D.dfl.length - (D.np - (xs.length + 1)))).length + 1 = D.np ∧ (tabD S.P n d).make c xs μ = (tabD S.P n d).make c (xs ++ D.dfl.drop (D.dfl.length - (D.np - (xs.length + 1)))) μ := by
  cases d with
  | zero => exact absurd rfl z
  | succ d =>
    rw [make_is hl hi hD] at z
    by_cases e : (fullArgs D (.obj c [] :: xs)).length = D.np
    · have e1 : (xs ++ D.dfl.drop (D.dfl.length - (D.np - (xs.length + 1)))).length + 1 = D.np := by
        rw [full_cons, List.length_cons] at e
        exact e
      refine ⟨e1, ?_⟩
      rw [make_is hl hi hD, make_is hl hi hD]
      have e2 : fullArgs D (.obj c [] :: (xs ++ D.dfl.drop (D.dfl.length - (D.np - (xs.length + 1))))) = fullArgs D (.obj c [] :: xs) := by
        rw [full_eq (by rw [List.length_cons]; exact e1)]
        exact full_cons.symm
      unfold runI
      rw [e2]
    · unfold runI at z
      rw [if_neg e] at z
      exact absurd rfl z
theorem make_obj {c i : Nat} {Cl : ClsM} (hl : S.P.clss[c]? = some Cl) (hi : Cl.init = some i) (hD : S.P.defs[i]? = some D) (xs : List MV) (μ : Mem) (v : MV) (μ1 : Mem) (z : (tabD S.P n d).make c xs μ = .ok v μ1) : ∃ ws, v = .obj c ws ∧ ws.length = Cl.fields.length := by
  cases d with
  | zero => cases z
  | succ d =>
    rw [make_is hl hi hD] at z
    unfold runI at z
    split at z
    · split at z
      · split at z
        · split at z
          · rename_i hh
            cases z
            exact ⟨_, rfl, hh.2⟩
          · cases z
        · cases z
      · cases z
      · cases z
    · cases z
abbrev FnD (S : Txt') (K : PySem.W.Frag) : Prop := ∀ (f : Nat) (F : FS), S.fs[f]? = some F → ∃ fd, FunD K F.d.name F.d.qual F.d.params F.d.body F.d.scope (F.d.dvs K) (F.d.kws K) (He.fAd K F.d.at_) fd
abbrev OkF (S : Txt') (P : Program) (w : World) (K : PySem.W.Frag) (mg : Str → Option Value) (base : Heap) (n d : Nat) : Prop := ∀ (f : Nat) (F : FS) (fd : FuncData), S.fs[f]? = some F → F.kd = .fn → FunD K F.d.name F.d.qual F.d.params F.d.body F.d.scope (F.d.dvs K) (F.d.kws K) (He.fAd K F.d.at_) fd →
  FnOk P w K mg base (L2.CX P w) (5 * d) (He.fAd K F.d.at_) fd F.ps (spM (S.glob K) (tabD S.P n d) f)
abbrev OkI (S : Txt') (P : Program) (w : World) (K : PySem.W.Frag) (mg : Str → Option Value) (base : Heap) (n d : Nat) : Prop := ∀ (f c : Nat) (F : FS) (fd : FuncData) (Cl : ClsM), S.fs[f]? = some F → F.kd = .ini c → S.P.clss[c]? = some Cl → Cl.init = some f → FunD K F.d.name F.d.qual F.d.params F.d.body F.d.scope (F.d.dvs K) (F.d.kws K) (He.fAd K F.d.at_) fd →
  FnOk P w K mg base (L2.CX P w) (5 * d) (He.fAd K F.d.at_) fd F.ps (spI (S.glob K) (tabD S.P n d) c)
/-- a def of the top, as it is called -/
theorem funOk_of (hin : K.In base) (hns : base.Ns mainGlobals mg) (hck : S.ck K = true) (hfd : FnD S K) (hc : AllC S S.fs S.P.defs) (hb : AllB S.fs) (hFn : OkF S P w K mg base n d) :
    ∀ (f : Nat) (F : FS), S.fs[f]? = some F → F.d.at_.2 = none → FunOk (S.glob K) (tabD S.P n d) P w K mg base (5 * d) F.d.at_.1 f := by
  intro f F hF ha
  obtain ⟨fd, FD⟩ := hfd f F hF
  obtain ⟨D, hD, C⟩ := allC_get hc hF
  exact ⟨He.fAd K F.d.at_, fd, F.ps, F.d.dvs K, D, glob_fA hF ha, glo_of hin hns hck hF ha, FD.kp, by rw [tabP]; exact hD, fun φ G => dv_ok C.dfl φ G, allB_get hb hF K fd _ FD, hFn f F fd hF (kd_of hck hF ha) FD, call_full hD, call_np hD⟩
theorem metOk_of (hfd : FnD S K) (hc : AllC S S.fs S.P.defs) (hb : AllB S.fs) (hFn : OkF S P w K mg base n d) : ∀ f a, (S.glob K).mA f = some a → MetOk (S.glob K) (tabD S.P n d) P w K mg base (5 * d) f a := by
  intro f a ha
  have ha : (match S.fs[f]? with
    | some F => if F.kd = FK.fn then some (He.fAd K F.d.at_) else none
    | none => none) = some a := ha
  split at ha
  · rename_i F hF
    split at ha
    · rename_i hk
      cases ha
      obtain ⟨fd, FD⟩ := hfd f F hF
      obtain ⟨D, hD, C⟩ := allC_get hc hF
      exact ⟨fd, F.ps, F.d.dvs K, D, by rw [tabP]; exact hD, fun φ G => dv_ok C.dfl φ G, allB_get hb hF K fd _ FD, hFn f F fd hF hk FD, call_full hD, call_np hD⟩
    · cases ha
  · cases ha
theorem iniOk_of (hck : S.ck K = true) (hfd : FnD S K) (hc : AllC S S.fs S.P.defs) (hb : AllB S.fs) (hI : OkI S P w K mg base n d) : ∀ (j : Nat) (C : Addr) (Cl : ClsM), (S.glob K).cA j = some C → (S.glob K).P.clss[j]? = some Cl → Cl.exc = false → Cl.init.isSome = true → IniOk (S.glob K) (tabD S.P n d) P w K mg base (5 * d) j := by
  intro j C Cl h1 h2 h3 h4
  obtain ⟨i, hi⟩ := Option.isSome_iff_exists.mp h4
  have h2 : S.P.clss[j]? = some Cl := h2
  obtain ⟨F, hF, hk, _, hm, _⟩ := ini_get hck h1 h2 hi
  obtain ⟨fd, FD⟩ := hfd i F hF
  obtain ⟨D, hD, CC⟩ := allC_get hc hF
  exact ⟨C, He.fAd K F.d.at_, fd, F.ps, F.d.dvs K, Cl, i, D, h1, by rw [tabP]; exact h2, hi, by rw [tabP]; exact hD, hm, fun φ G => dv_ok CC.dfl φ G, allB_get hb hF K fd _ FD, hI i j F fd Cl hF hk h2 hi FD, fun xs μ z => make_full h2 hi hD xs μ z, fun xs μ v μ1 z => make_obj h2 hi hD xs μ v μ1 z⟩
theorem exF_of (hin : K.In base) (hns : base.Ns mainGlobals mg) (hck : S.ck K = true) (hfd : FnD S K) (hc : AllC S S.fs S.P.defs) (hb : AllB S.fs) : ∀ (j : Nat) (C : Addr) (Cl : ClsM) (f : Str), (S.glob K).cA j = some C → (S.glob K).P.clss[j]? = some Cl → Cl.exc = true → Cl.fields = [f] → ExF (S.glob K) P w K mg base (5 * d) j := by
  intro j C Cl f h1 h2 h3 h4
  have h2 : S.P.clss[j]? = some Cl := h2
  obtain ⟨i, F, B, hF, hk, q1, q2, q3, q4, q5, q6⟩ := xc_get hck h1 h2 h3 h4
  obtain ⟨fd, FD⟩ := hfd i F hF
  obtain ⟨D, hD, CC⟩ := allC_get hc hF
  obtain ⟨x1, x2, x3, x4, x5, x6, x7⟩ := CC.xin j f B hk
  have hno : PySem.W.findIn K (.ref C) f = some none := by
    have := ((excG_ok hck).fld j C Cl h1 h2 h3).2 f (by rw [h4]; exact List.mem_cons_self ..)
    exact this
  have e1 : F.d.dvs K = [] := by unfold He.DefD.dvs; rw [x7]; rfl
  have hbd : Binds K fd F.ps [] := by
    obtain ⟨ds, d1, d2⟩ := allB_get hb hF K fd _ FD 0 (Nat.zero_le _)
    rw [e1, List.drop_nil] at d1
    cases d1
    exact d2
  refine ⟨C, He.fAd K F.d.at_, fd, F.ps, f, Cl, h1, h2, h3, h4, q1, q2, q3, hno, hbd, ?_⟩
  · exact FD.ok (fnSc_ok CC.sc) (fun vs H Q E h => by
      obtain ⟨a, y, rfl, _⟩ := h
      rw [x6, x5]
      rfl) fun cdv A outer s H vs Q E hr h => by
      obtain ⟨a, y, rfl, ea, hT, hn, q⟩ := h
      exact xin_body x1 x2 x3 x4 (He.glo_ok hin hns q4) q5 q6 x5 hT hn ea q
/-- EVERY DEF -/
theorem fns_ok (hin : K.In base) (hns : base.Ns mainGlobals mg) (hck : S.ck K = true) (hfd : FnD S K) (hc : AllC S S.fs S.P.defs) (hb : AllB S.fs) (n : Nat) : ∀ (d : Nat), OkF S P w K mg base n d ∧ OkI S P w K mg base n d := by
  intro d
  induction d with
  | zero =>
    refine ⟨fun f F fd hF hk FD => ⟨fun vs H Q E h => ?_, fun A outer s H args us vs Q E _ _ _ _ h => ?_⟩, fun f c F fd Cl hF hk hl hi FD => ⟨fun vs H Q E h => ?_, fun A outer s H args us vs Q E _ _ _ _ h => ?_⟩⟩
    · obtain ⟨φ, G, μ, xs, D', _, _, _, _, _, z⟩ := h
      exact z.elim
    · obtain ⟨φ, G, μ, xs, D', _, _, _, _, _, z⟩ := h
      exact z.elim
    · obtain ⟨_, _, _, _, _, _, _, _, _, _, _, _, _, _, _, _, _, _, _, _, _, _, z⟩ := h
      exact z.elim
    · obtain ⟨_, _, _, _, _, _, _, _, _, _, _, _, _, _, _, _, _, _, _, _, _, _, z⟩ := h
      exact z.elim
  | succ d ih =>
    obtain ⟨ihF, ihI⟩ := ih
    have FO := funOk_of hin hns hck hfd hc hb ihF
    have MO := metOk_of hfd hc hb ihF
    have IO := iniOk_of hck hfd hc hb ihI
    have XO := exF_of (P := P) (w := w) (d := d) hin hns hck hfd hc hb
    have funs : ∀ (x : Str) f, x ≠ "" → ixOf x (S.fs.map FS.nm) = some f → FunOk (S.glob K) (tabD S.P n d) P w K mg base (5 * d) x f := fun (x : Str) f hx h => by
      obtain ⟨F', h1, h2, h3⟩ := nm_get hx h
      rw [← h3]
      exact FO f F' h1 h2
    have fadr : ∀ f a, (S.glob K).fA f = some a → ∃ x, FunOk (S.glob K) (tabD S.P n d) P w K mg base (5 * d) x f := fun f a h => by
      have h : (match S.fs[f]? with
        | some F => if F.d.at_.2.isNone then some (He.fAd K F.d.at_) else none
        | none => none) = some a := h
      split at h
      · rename_i F' hF'
        split at h
        · rename_i hn
          exact ⟨_, FO f F' hF' (by simpa using hn)⟩
        · cases h
      · cases h
    have fnd : ∀ (j : Nat) (Cl : ClsM), (S.glob K).P.clss[j]? = some Cl → Cl.init.isSome = true → Cl.fields.Nodup ∧ Cl.fields.length < 1000 := fun j Cl h1 h2 => by
      obtain ⟨i, hi⟩ := Option.isSome_iff_exists.mp h2
      have h1 : S.P.clss[j]? = some Cl := h1
      obtain ⟨hs, h3⟩ := He.ba hck
      obtain ⟨h4, h5⟩ := He.ba h3
      obtain ⟨x, h6, _⟩ := clss_get h5 h1
      have hA : (S.glob K).cA j = some (He.ga K x) := by
        show (S.cls[j]?).map _ = _
        rw [h6]
        rfl
      obtain ⟨F, _, _, _, _, h7⟩ := ini_get hck hA h1 hi
      exact h7
    have xok : ∀ (F : FS) (md : Md) (cdv : Value) (A : Around) (outer : List PySem.Env) (s : Shared) (H : Hp) (E : XK), FnScope F.N F.ps F.d.scope → Room (5 * d + 4) (A.deeper (envOfC F.d.qual F.d.scope s.heap.objs.size (He.fAd K F.d.at_) cdv)) →
        (∀ i, md.ex i = decide ((S.cfg F).xs = some i)) → md ≠ .hid0 → (∀ j a c d, md ≠ .exc j a c d) →
        XOk (cxOf (L2.CX P w) P w K mg base F.N F.d.qual F.d.scope (He.fAd K F.d.at_) cdv A outer s H E) (S.glob K) (tabD S.P n d) (fun cls dd _ H1 => E cls dd H1) md (S.cfg F) (5 * d) := fun F md cdv A outer s H E fsc hr hmd hh hx => by
      have tk := takes_of (X := cxOf (L2.CX P w) P w K mg base F.N F.d.qual F.d.scope (He.fAd K F.d.at_) cdv A outer s H E) rfl rfl rfl rfl
      exact ⟨rfl, fsc.nd, rfl, fsc.kind, fun _ => rfl, rfl, tabP n d, rfl, hr.units, kit_ok hck, excG_ok hck, fld_ok hck, fun _ => ⟨rfl, tk, hr⟩, fun _ => ⟨rfl, tabP n d, objk_ok hck, kit_ok hck, MO, hr, tk⟩, nodash_ok hck, IO, XO, ics_ok hin hns hck, dcs_ok hin hns hck, fun _ => hh, fun _ => ⟨rfl, rfl⟩, fnd, funs, fadr, clsn_ok hin hns hck, blt_ok hin hns hck, hmd, .inl ⟨rfl, hx⟩⟩
    refine ⟨fun f F fd hF hk FD => ?_, fun f c F fd Cl hF hk hl hi FD => ?_⟩
    · obtain ⟨D, hD, C⟩ := allC_get hc hF
      have hcb := C.body (by rw [hk]; rfl)
      have hres : FnOk P w K mg base (L2.CX P w) (5 * d + 4 + 1) (He.fAd K F.d.at_) fd F.ps (spM (S.glob K) (tabD S.P n (d + 1)) f) := by
        refine FD.ok (fnSc_ok C.sc) (fun vs H Q E h => ?_) fun cdv A outer s H vs Q E hr h => ⟨tR (S.glob K) (fun cls dd _ H1 => E cls dd H1) .no (evB (tabD S.P n d) D.body), ?_, ?_⟩
        · obtain ⟨φ, G, μ, xs, D', _, _, h1, h2, h3, _⟩ := h
          rw [tabP] at h2
          rw [hD] at h2
          cases h2
          rw [← h1.len, h3, C.np]
        · exact body_ok (k := 5 * d) (c := S.cfg F) (rec := compS 40) (compS_ok 40) (xok F .no cdv A outer s H E (fnSc_ok C.sc) hr (fun i => by
            show false = decide ((match F.kd with
              | .ini _ => some 0
              | _ => none) = some i)
            rw [hk]
            rfl) (fun z => by cases z) (fun _ _ _ _ z => by cases z)) ⟨fun _ => ⟨passes_of (X := cxOf (L2.CX P w) P w K mg base F.N F.d.qual F.d.scope (He.fAd K F.d.at_) cdv A outer s H E) rfl, rfl, rfl⟩⟩ hcb
        · obtain ⟨φ, G, μ, xs, D', sb, r, h1, h2, h3, h4⟩ := h
          rw [tabP] at h2
          rw [hD] at h2
          cases h2
          rw [call_is hD] at h4
          exact run_ok sb r h1 C.ns h3 h4
      exact hres
    · obtain ⟨D, hD, C⟩ := allC_get hc hF
      have hcb := C.body (by rw [hk]; rfl)
      have hres : FnOk P w K mg base (L2.CX P w) (5 * d + 4 + 1) (He.fAd K F.d.at_) fd F.ps (spI (S.glob K) (tabD S.P n (d + 1)) c) := by
        refine FD.ok (fnSc_ok C.sc) (fun vs H Q E h => ?_) fun cdv A outer s H vs Q E hr h => ?_
        · obtain ⟨x, rest, C', dx, φ, G, μ, xs, Cl', i, D', rfl, _, _, _, _, h1, _, h2, h3, h4, h5, _⟩ := h
          rw [tabP] at h2 h4
          rw [hl] at h2
          cases h2
          rw [hi] at h3
          cases h3
          rw [hD] at h4
          cases h4
          rw [List.length_cons, ← h1.len, h5, C.np]
        · obtain ⟨x, rest, C', dx, φ, G, μ, xs, Cl', i, D', rfl, hx, hg, sb, r, h1, hcA, h2, h3, h4, h5, h6⟩ := h
          rw [tabP] at h2 h4
          rw [hl] at h2
          cases h2
          rw [hi] at h3
          cases h3
          rw [hD] at h4
          cases h4
          rw [make_is hl hi hD] at h6
          refine ⟨tR (S.glob K) (fun cls dd _ H1 => E cls dd H1) (.ini x) (evB (tabD S.P n d) D.body), ?_, run_ini sb r h1 C.ns h5 hx hg hcA hl h6⟩
          exact body_ok (k := 5 * d) (c := S.cfg F) (rec := compS 40) (compS_ok 40) (xok F (.ini x) cdv A outer s H E (fnSc_ok C.sc) hr (fun i => by
            show (i == 0) = decide ((match F.kd with
              | .ini _ => some 0
              | _ => none) = some i)
            rw [hk]
            by_cases e : i = 0
            · subst e; rfl
            · have e' : (0 : Nat) ≠ i := fun z => e z.symm
              simp [e, e']) (fun z => by cases z) (fun _ _ _ _ z => by cases z)) ⟨fun _ => ⟨passes_of (X := cxOf (L2.CX P w) P w K mg base F.N F.d.qual F.d.scope (He.fAd K F.d.at_) cdv A outer s H E) rfl, rfl, rfl⟩⟩ hcb
      exact hres
end
end
end Mch

/-! ## The head and the law's end -/
namespace Mch
open PySem PySem.Spec PyProof.Rows L2
def obsM (S : Txt') (K : PySem.W.Frag) : He.AlD := (S.ck K && S.fs.all fun F => F.d.ok K, S.fs.map fun F => He.fnW K F.d.at_)
def valM (S : Txt') : He.AlD := (true, S.fs.map fun F => F.d.val)
def SaysM (S : Txt') (K : PySem.W.Frag) : Prop := obsM S K = valM S
def obsMG (n : Nat) (S : Txt') (g : Addr → Option Obj) : He.AlD := obsM S (He.frG g (cStatics :: He.asD g n))
def hookM (n : Nat) (S : Txt') : PySem.W.Hook where
  α := He.AlD
  obs := fun s => obsMG n S s.heap.get?
  val := fun _ => valM S
  says := fun _ h => ∃ K : PySem.W.Frag, K.In h ∧ SaysM S K
  of := fun _ _ e => ⟨_, He.frG_in, e⟩
  keeps := fun _ _ _ ⟨K, hK, c⟩ k => ⟨K, PySem.W.Frag.In.keeps hK k, c⟩
theorem obsMG_eq {n : Nat} {S : Txt'} {g : Addr → Option Obj} {s : Shared} (h : ∀ a, g a = s.heap.get? a) : obsMG n S g = (hookM n S).obs s := by
  have e : g = s.heap.get? := funext h
  rw [e] <;> rfl
section
variable {S : Txt'} {K : PySem.W.Frag}
theorem SaysM.ck (c : SaysM S K) : S.ck K = true := (He.ba (show (S.ck K && S.fs.all fun F => F.d.ok K) = true from congrArg (fun z : He.AlD => z.1) c)).1
theorem SaysM.fd (c : SaysM S K) (f : Nat) (F : FS) (h : S.fs[f]? = some F) : ∃ fd, FunD K F.d.name F.d.qual F.d.params F.d.body F.d.scope (F.d.dvs K) (F.d.kws K) (He.fAd K F.d.at_) fd := by
  have c2 := (He.ba (show (S.ck K && S.fs.all fun F => F.d.ok K) = true from congrArg (fun z : He.AlD => z.1) c)).2
  have e : S.fs.map (fun F => He.fnW K F.d.at_) = S.fs.map fun F => F.d.val := congrArg (fun z : He.AlD => z.2) c
  have e2 : (S.fs.map fun F => He.fnW K F.d.at_)[f]? = (S.fs.map fun F => F.d.val)[f]? := by rw [e]
  rw [List.getElem?_map, List.getElem?_map, h] at e2
  exact He.DefD.funD (Option.some.inj e2) (List.all_eq_true.mp c2 F (List.mem_of_getElem? h))
end
/-- the world with one of its settings known -/
def setF (w : World) (b : Bool) : World := { w with params := { w.params with followText := fun s => if s = "special-get-raises" then b else w.params.followText s } }
theorem setF_eq (w : World) : setF w (w.params.followText "special-get-raises") = w := by
  have key : (fun s => if s = "special-get-raises" then w.params.followText "special-get-raises" else w.params.followText s) = w.params.followText := by
    funext s
    by_cases h : s = "special-get-raises"
    · rw [if_pos h, h]
    · rw [if_neg h]
  show ({ w with params := { w.params with followText := fun s => if s = "special-get-raises" then w.params.followText "special-get-raises" else w.params.followText s } } : World) = w
  rw [key]
/-- the script as the machine has it -/
theorem script_rv {g : Glob} {H : Hp} {a : Addr} {ns : List Int} (hO : Only H) (hS : SqL g.K H a (ns.map V.int)) : ∃ φ, Rel g φ H [.frz (ns.map MV.int)] ∧ RVs g φ H [.ref 0] [.ref a] := by
  refine ⟨[a], ⟨rfl, fun i j b c d h1 h2 h3 h4 m1 m2 => ?_, fun i b c h1 h2 => ?_⟩, rvs_cons (by simp only [RV]; exact ⟨a, rfl, rfl⟩) rvs_nil⟩
  · cases i with
    | zero => simp at h3; subst h3; cases m1
    | succ i => simp at h3
  · cases i with
    | succ i => simp at h2
    | zero =>
      simp at h1 h2
      subst h1 h2
      refine ⟨ns.map V.int, ?_, ?_⟩
      · rcases hS with (h | ⟨o, h⟩) | ⟨o, its, n, h⟩
        · rcases hO a with z | ⟨o, xs, z⟩ <;> rw [h] at z <;> cases z
        · exact .inl ⟨o, h⟩
        · exact .inr fun G1 => .inr ⟨o, its, n, h⟩
      · refine rvs_iff.mpr ⟨by simp, fun i x v e1 e2 => ?_⟩
        rw [List.getElem?_map] at e1 e2
        cases e : ns[i]? with
        | none => rw [e] at e1; cases e1
        | some z =>
          rw [e] at e1 e2
          cases e1
          cases e2
          simp only [RV]
/-- A LAW OF A TEXT: what the machine's run of the def li gives at every script -/
theorem walk_ofM {S : Txt'} {l : PySem.W.OpenLaw} {n m k N li : Nat} {q : Program} {loose : List Str} {XP : (Str → Option Value) → Heap → Prop} {d : DefRec} {x : Str} {F : FS}
    (hn : l.most = some n) (hn2 : n ≤ sizeLine) (hdf : d.params.defaults = []) (hr : Room (5 * k) callerA) (hF : S.fs[li]? = some F) (hkd : F.kd = .fn) (ha : F.d.at_ = (d.name, none)) (hps : F.ps = [x]) (hdl : F.d.dfl = [])
    (hbd : ∀ (K : PySem.W.Frag) (fd : FuncData) (f : Addr), FunD K F.d.name F.d.qual F.d.params F.d.body F.d.scope [] [] f fd → ∀ (s : Shared) (u : Value), BindsTo s fd ⟨[u], []⟩ [(x, u)])
    (hc : AllC S S.fs S.P.defs) (hb : AllB S.fs)
    (run : ∀ ns : List Int, ns.length ≤ n → (∀ z ∈ ns, Builtin.Int.intBits z ≤ 1048576) → ∃ μ, (tabD S.P N k).call li [.ref 0] [.frz (ns.map MV.int)] = .ok (.bl true) μ) :
    PySem.W.WalkO q loose XP (hookM m S).says l.row.toRowW d [] (fun f vs => PySem.call f vs) := by
  refine Att.attach_callB hn hdf fun w s₀ s₁ mg mb fa o pm cd doc a vs ns G Y ho hd hcd hmg hobj hints hlen hbits hg => ?_
  obtain ⟨K, KX, c⟩ := Y
  obtain ⟨D, hD, C⟩ := allC_get hc hF
  have hfd := c.fd
  have ck := c.ck
  obtain ⟨fd, FD⟩ := c.fd li F hF
  have e1 : F.d.dvs K = [] := by unfold He.DefD.dvs; rw [hdl]; rfl
  have e2 : F.d.kws K = [] := by unfold He.DefD.kws; rw [C.kwd]; rfl
  rw [e1, e2] at FD
  have efa : He.fAd K F.d.at_ = fa := by
    have := glo_of KX G.T.g ck hF (by rw [ha])
    rw [ha] at this
    rw [hmg] at this
    cases this
    rw [ha]
  have FO : ∀ base : Heap, K.In base → base.Ns mainGlobals mg → FnOk l.prog w K mg base (L2.CX l.prog w) (5 * k) fa fd [x] (spM (S.glob K) (tabD S.P N k) li) := fun base h1 h2 => by
    have := (fns_ok (P := l.prog) (w := w) h1 h2 ck hfd hc hb N k).1 li F fd hF hkd (by rw [e1, e2]; exact FD)
    rw [efa, hps] at this
    exact this
  rw [efa] at FD
  refine law_call (k := 5 * k) (sp := spM (S.glob K) (tabD S.P N k) li) (CX := L2.CX l.prog w) KX G.T.g G.T.b G.T.builtins G.T.nolimit hg hobj hints (Nat.le_trans hlen hn2) hr FO (hbd K fd fa FD) (fun H hO hS => ?_) fun H e s' z => ?_
  · obtain ⟨φ, r, rv⟩ := script_rv (g := S.glob K) hO hS
    obtain ⟨μ, hrun⟩ := run ns hlen hbits
    have hT : (tabD S.P N k).P = S.P := by cases k <;> rfl
    refine ⟨φ, H, [.frz (ns.map MV.int)], [.ref 0], D, fun _ _ h => h, r, rv, by rw [hT]; exact hD, by rw [C.np, hps]; rfl, ?_⟩
    rw [hrun]
    intro φ1 G1 H1 e1 r1 w' hw
    simpa only [RV] using hw
  · obtain ⟨_, _, _, _, _, _, _, _, _, _, _, _, z⟩ := z
    exact z
end Mch

/-! ## k02: the program of the machine -/
namespace Mch.k02
open PySem L2 Mch
/- _wall(0 k) -/
def d0 : Def := ⟨1, [], 1, [
  .while (.bl true) [.pass]]⟩
/- Refused.__init__: an exception's -/
def d1 : Def := ⟨2, [], 2, []⟩
/- NoText.__init__: an exception's -/
def d2 : Def := ⟨2, [], 2, []⟩
/- is_integer(0 value) -/
def d3 : Def := ⟨1, [], 1, [
  .ret (.and (.isin (.var 0) [.int]) (.not (.isin (.var 0) [.bool])))]⟩
/- common(0 a, 1 b) -/
def d4 : Def := ⟨2, [], 2, [
  .asg (.tup [(.var 0), (.var 1)]) (.tup [(.bi .abs [(.var 0)]), (.bi .abs [(.var 1)])]),
  .while (.cmp .Gt (.var 1) (.int 0)) [.asg (.tup [(.var 0), (.var 1)]) (.tup [(.var 1), (.bin .Mod (.var 0) (.var 1))])],
  .ret (.var 0)]⟩
/- Ratio.__init__(0 self, 1 n, 2 d, 3 g) -/
def d5 : Def := ⟨3, [.int 1], 4, [
  .ite (.or (.not (.call 3 [(.var 1)])) (.not (.call 3 [(.var 2)]))) [.raise 1 [(.str "a number")]] [],
  .ite (.ocmp .Eq (.var 2) (.int 0)) [.raise 2 [(.str "zero")]] [],
  .asg (.var 3) (.call 4 [(.var 1), (.var 2)]),
  .setf "n" (.ite (.ocmp .Gt (.var 2) (.int 0)) (.obin .FloorDiv (.var 1) (.var 3)) (.obin .FloorDiv (.oneg (.var 1)) (.var 3))),
  .setf "d" (.obin .FloorDiv (.bi .abs [(.var 2)]) (.var 3))]⟩
/- Ratio.__add__(0 self, 1 other) -/
def d6 : Def := ⟨2, [], 2, [
  .expr (.call 20 [(.var 1)]),
  .ret (.mk 4 [(.obin .Add (.obin .Mult (.fld (.var 0) "n") (.fld (.var 1) "d")) (.obin .Mult (.fld (.var 1) "n") (.fld (.var 0) "d"))), (.obin .Mult (.fld (.var 0) "d") (.fld (.var 1) "d"))])]⟩
/- Ratio.__sub__(0 self, 1 other) -/
def d7 : Def := ⟨2, [], 2, [
  .expr (.call 20 [(.var 1)]),
  .ret (.mk 4 [(.obin .Sub (.obin .Mult (.fld (.var 0) "n") (.fld (.var 1) "d")) (.obin .Mult (.fld (.var 1) "n") (.fld (.var 0) "d"))), (.obin .Mult (.fld (.var 0) "d") (.fld (.var 1) "d"))])]⟩
/- Ratio.__mul__(0 self, 1 other) -/
def d8 : Def := ⟨2, [], 2, [
  .expr (.call 20 [(.var 1)]),
  .ret (.mk 4 [(.obin .Mult (.fld (.var 0) "n") (.fld (.var 1) "n")), (.obin .Mult (.fld (.var 0) "d") (.fld (.var 1) "d"))])]⟩
/- Ratio.__neg__(0 self) -/
def d9 : Def := ⟨1, [], 1, [
  .ret (.mk 4 [(.oneg (.fld (.var 0) "n")), (.fld (.var 0) "d")])]⟩
/- Ratio.__eq__(0 self, 1 other) -/
def d10 : Def := ⟨2, [], 2, [
  .ret (.and (.isin (.var 1) [.cls 4]) (.and (.ocmp .Eq (.fld (.var 0) "n") (.fld (.var 1) "n")) (.ocmp .Eq (.fld (.var 0) "d") (.fld (.var 1) "d"))))]⟩
/- Ratio.less(0 self, 1 other) -/
def d11 : Def := ⟨2, [], 2, [
  .expr (.call 0 [(.int 0)])]⟩
/- Ratio.__str__(0 self) -/
def d12 : Def := ⟨1, [], 1, [
  .ite (.ocmp .Eq (.fld (.var 0) "d") (.int 1)) [.ret (.ostr (.fld (.var 0) "n"))] [],
  .ret (.fstr [(.fmt (.fld (.var 0) "n")), (.str "/"), (.fmt (.fld (.var 0) "d"))])]⟩
/- Ratio.over(0 self, 1 other) -/
def d13 : Def := ⟨2, [], 2, [
  .expr (.call 0 [(.int 1)])]⟩
/- Ratio.times(0 self, 1 k) -/
def d14 : Def := ⟨2, [], 2, [
  .expr (.call 0 [(.int 2)])]⟩
/- Ratio.sign(0 self) -/
def d15 : Def := ⟨1, [], 1, [
  .expr (.call 0 [(.int 3)])]⟩
/- Ratio.is_zero(0 self) -/
def d16 : Def := ⟨1, [], 1, [
  .expr (.call 0 [(.int 4)])]⟩
/- Ratio.is_whole(0 self) -/
def d17 : Def := ⟨1, [], 1, [
  .expr (.call 0 [(.int 5)])]⟩
/- Ratio.floor(0 self) -/
def d18 : Def := ⟨1, [], 1, [
  .expr (.call 0 [(.int 6)])]⟩
/- Ratio.size(0 self) -/
def d19 : Def := ⟨1, [], 1, [
  .expr (.call 0 [(.int 7)])]⟩
/- check_ratio(0 value) -/
def d20 : Def := ⟨1, [], 1, [
  .ite (.not (.isin (.var 0) [.cls 4])) [.raise 1 [(.str "a Ratio")]] []]⟩
/- is_ratio_row(0 value, 1 x) -/
def d21 : Def := ⟨1, [], 2, [
  .ret (.and (.isin (.var 0) [.tuple]) (.bi .all [(.comp (.isin (.var 1) [.cls 4]) (.var 1) (.var 0) (.bl true) [1])]))]⟩
/- ratios(0 row, 1 x) -/
def d22 : Def := ⟨1, [], 2, [
  .ite (.not (.isin (.var 0) [.list, .tuple])) [.raise 1 [(.str "numbers")]] [],
  .ret (.bi .tuple [(.compX (.ite (.isin (.var 1) [.cls 4]) (.var 1) (.mk 4 [(.var 1)])) (.var 1) (.var 0) (.bl true) [1])])]⟩
/- ratio_sum(0 row, 1 found, 2 x) -/
def d23 : Def := ⟨1, [], 3, [
  .asg (.var 1) (.mk 4 [(.int 0)]),
  .for (.var 2) (.var 0) [.asg (.var 1) (.obin .Add (.var 1) (.var 2))],
  .ret (.var 1)]⟩
/- ratio_product(0 row, 1 found, 2 x) -/
def d24 : Def := ⟨1, [], 3, [
  .asg (.var 1) (.mk 4 [(.int 1)]),
  .for (.var 2) (.var 0) [.asg (.var 1) (.obin .Mult (.var 1) (.var 2))],
  .ret (.var 1)]⟩
/- dot(0 one, 1 two, 2 x, 3 y) -/
def d25 : Def := ⟨2, [], 4, [
  .ret (.call 23 [(.comp (.obin .Mult (.var 2) (.var 3)) (.tup [(.var 2), (.var 3)]) (.zip (.var 0) (.var 1)) (.bl true) [2, 3])])]⟩
/- ratios_text(0 row, 1 x) -/
def d26 : Def := ⟨1, [], 2, [
  .ret (.ite (.ocmp .Gt (.bi .len [(.var 0)]) (.int 0)) (.mth .join (.str ",") [(.comp (.ostr (.var 1)) (.var 1) (.var 0) (.bl true) [1])]) (.str "-"))]⟩
/- read_ratio(0 text, 1 piece, 2 found, 3 top, 4 slash, 5 low, 6 c) -/
def d27 : Def := ⟨1, [], 7, [
  .ite (.or (.not (.isin (.var 0) [.str])) (.ocmp .Gt (.bi .len [(.var 0)]) (.int 400))) [.raise 3 [(.int 0)]] [],
  .asg (.tup [(.var 3), (.var 4), (.var 5)]) (.mth .partition (.mth .removeprefix (.var 0) [(.str "-")]) [(.str "/")]),
  .for (.var 1) (.tup [(.var 3), (.ite (.ocmp .Eq (.var 4) (.str "/")) (.var 5) (.str "1"))]) [.ite (.or (.ocmp .Eq (.var 1) (.str "")) (.not (.bi .all [(.comp (.cmp2 .LtE .LtE (.str "0") (.var 6) (.str "9")) (.var 6) (.var 1) (.bl true) [6])]))) [.raise 3 [(.int 0)]] []],
  .ite (.and (.ocmp .Eq (.var 4) (.str "/")) (.ocmp .Eq (.bi .int [(.var 5)]) (.int 0))) [.raise 3 [(.int 0)]] [],
  .asg (.var 2) (.mk 4 [(.bi .int [(.var 3)]), (.ite (.ocmp .Eq (.var 4) (.str "/")) (.bi .int [(.var 5)]) (.int 1))]),
  .asg (.var 2) (.ite (.mth .startswith (.var 0) [(.str "-")]) (.oneg (.var 2)) (.var 2)),
  .ite (.ocmp .NotEq (.ostr (.var 2)) (.var 0)) [.raise 3 [(.int 0)]] [],
  .ret (.var 2)]⟩
/- read_ratios(0 text, 1 piece) -/
def d28 : Def := ⟨1, [], 2, [
  .ite (.not (.isin (.var 0) [.str])) [.raise 3 [(.int 0)]] [],
  .ite (.ocmp .Eq (.var 0) (.str "-")) [.ret (.tup [])] [],
  .ret (.bi .tuple [(.compX (.call 27 [(.var 1)]) (.var 1) (.mth .split (.var 0) [(.str ",")]) (.bl true) [1])])]⟩
/- _law_state(0 script, 1 seed, 2 total, 3 cell) -/
def d29 : Def := ⟨1, [], 4, [
  .asg (.var 1) (.int 0),
  .asg (.var 2) (.int 1),
  .for (.var 3) (.slc (.var 0) .non (.int 63)) [.asg (.var 1) (.bin .Add (.bin .Mult (.var 1) (.int 1000003)) (.bi .abs [(.var 3)])), .asg (.var 2) (.bin .Mod (.bi .int [(.bin .Add (.bin .Mult (.var 2) (.int 48271)) (.var 3))]) (.int 2147483647))],
  .ret (.lst [(.var 1), (.ite (.cmp .NotEq (.var 2) (.int 1973665155)) (.var 2) (.int 7))])]⟩
/- _law_take(0 state, 1 m, 2 value) -/
def d30 : Def := ⟨2, [], 3, [
  .ite (.cmp .Gt (.idx (.var 0) (.int 0)) (.int 0)) [.asg (.var 2) (.bin .Mod (.bi .int [(.idx (.var 0) (.int 0))]) (.var 1)), .asg (.idx (.var 0) (.int 0)) (.bin .FloorDiv (.idx (.var 0) (.int 0)) (.var 1)), .ret (.var 2)] [],
  .asg (.idx (.var 0) (.int 1)) (.bin .Mod (.bi .int [(.bin .Add (.bin .Mult (.idx (.var 0) (.int 1)) (.int 48271)) (.int 11))]) (.int 2147483647)),
  .ret (.bin .Mod (.bi .int [(.bin .FloorDiv (.idx (.var 0) (.int 1)) (.int 7))]) (.var 1))]⟩
/- _law_says(0 value, 1 due) -/
def d31 : Def := ⟨2, [], 2, [
  .ret (.and (.isin (.var 0) [.bool]) (.cmp .Eq (.var 0) (.var 1)))]⟩
/- _law_is_whole(0 value) -/
def d32 : Def := ⟨1, [], 1, [
  .ret (.and (.isin (.var 0) [.int]) (.not (.isin (.var 0) [.bool])))]⟩
/- _law_same(0 one, 1 two, 2 k) -/
def d33 : Def := ⟨2, [], 3, [
  .ite (.isin (.var 1) [.tuple]) [.ret (.and (.isin (.var 0) [.tuple]) (.and (.cmp .Eq (.bi .len [(.var 0)]) (.bi .len [(.var 1)])) (.bi .all [(.comp (.call 33 [(.idx (.var 0) (.var 2)), (.idx (.var 1) (.var 2))]) (.var 2) (.rng [(.bi .len [(.var 1)])]) (.bl true) [2])])))] [],
  .ite (.isin (.var 1) [.str]) [.ret (.and (.isin (.var 0) [.str]) (.cmp .Eq (.var 0) (.var 1)))] [],
  .ite (.cmp .Is (.var 1) .non) [.ret (.cmp .Is (.var 0) .non)] [],
  .ret (.and (.call 32 [(.var 0)]) (.cmp .Eq (.var 0) (.var 1)))]⟩
/- _law_common(0 a, 1 b) -/
def d34 : Def := ⟨2, [], 2, [
  .while (.cmp .NotEq (.var 1) (.int 0)) [.asg (.tup [(.var 0), (.var 1)]) (.tup [(.var 1), (.bin .Mod (.bi .int [(.var 0)]) (.var 1))])],
  .ret (.bi .abs [(.var 0)])]⟩
/- _law_result(0 act, 1 given, 2 refused) -/
def d35 : Def := ⟨2, [], 3, [
  .try2 [.ite (.cmp .Eq (.bi .len [(.var 1)]) (.int 1)) [.ret (.tup [(.str "told"), (.callv 0 [(.idx (.var 1) (.int 0))])])] [], .ite (.cmp .Eq (.bi .len [(.var 1)]) (.int 2)) [.ret (.tup [(.str "told"), (.callv 0 [(.idx (.var 1) (.int 0)), (.idx (.var 1) (.int 1))])])] [], .ite (.cmp .Eq (.bi .len [(.var 1)]) (.int 3)) [.ret (.tup [(.str "told"), (.callv 0 [(.idx (.var 1) (.int 0)), (.idx (.var 1) (.int 1)), (.idx (.var 1) (.int 2))])])] [], .ite (.cmp .Eq (.bi .len [(.var 1)]) (.int 4)) [.ret (.tup [(.str "told"), (.callv 0 [(.idx (.var 1) (.int 0)), (.idx (.var 1) (.int 1)), (.idx (.var 1) (.int 2)), (.idx (.var 1) (.int 3))])])] [], .ret (.tup [(.str "told"), (.callv 0 [(.idx (.var 1) (.int 0)), (.idx (.var 1) (.int 1)), (.idx (.var 1) (.int 2)), (.idx (.var 1) (.int 3)), (.idx (.var 1) (.int 4))])])] 1 none [.ret (.tup [(.str "malformed"), .non])] 2 (some 2) [.ret (.tup [(.str "refused"), (.xfld 2 "reason")])]]⟩
/- _law_num(0 state) -/
def d36 : Def := ⟨1, [], 1, [
  .ret (.mk 4 [(.obin .Sub (.call 30 [(.var 0), (.int 13)]) (.int 6)), (.obin .Add (.int 1) (.call 30 [(.var 0), (.int 3)]))])]⟩
/- _law_num_row(0 state, 1 many, 2 k) -/
def d37 : Def := ⟨2, [], 3, [
  .ret (.bi .tuple [(.comp (.call 36 [(.var 0)]) (.var 2) (.rng [(.var 1)]) (.bl true) [2])])]⟩
/- _law_read(0 act, 1 text, 2 error) -/
def d38 : Def := ⟨2, [], 3, [
  .try1 [.ret (.call 35 [(.var 0), (.tup [(.var 1)])])] 3 (some 2) [.ret (.tup [(.str "text"), (.xfld 2 "at")])]]⟩
/- _law_is_text(0 text, 1 own, 2 parts, 3 part, 4 c) -/
def d39 : Def := ⟨1, [], 5, [
  .asg (.var 1) (.ite (.cmp .Eq (.slc (.var 0) .non (.int 1)) (.str "-")) (.slc (.var 0) (.int 1) .non) (.var 0)),
  .asg (.var 2) (.mth .split (.var 1) [(.str "/")]),
  .ite (.or (.cmp .Gt (.bi .len [(.var 0)]) (.int 400)) (.or (.cmp .Gt (.bi .len [(.var 2)]) (.int 2)) (.bi .any [(.comp (.or (.cmp .Eq (.var 3) (.str "")) (.not (.bi .all [(.comp (.cmp .In (.var 4) (.str "0123456789")) (.var 4) (.var 3) (.bl true) [4])]))) (.var 3) (.var 2) (.bl true) [3])]))) [.ret (.bl false)] [],
  .ite (.or (.bi .any [(.comp (.and (.cmp .Gt (.bi .len [(.var 3)]) (.int 1)) (.cmp .Eq (.idx (.var 3) (.int 0)) (.str "0"))) (.var 3) (.var 2) (.bl true) [3])]) (.cmp .Eq (.slc (.var 0) .non (.int 2)) (.str "-0"))) [.ret (.bl false)] [],
  .ite (.cmp .Eq (.bi .len [(.var 2)]) (.int 1)) [.ret (.bl true)] [],
  .ret (.and (.cmp .Gt (.bi .int [(.idx (.var 2) (.int 1))]) (.int 1)) (.cmp .Eq (.call 34 [(.bi .int [(.idx (.var 2) (.int 0))]), (.bi .int [(.idx (.var 2) (.int 1))])]) (.int 1)))]⟩
/- law(0 script, 1 state, 2 extent, 3 value, 4 mixed, 5 text, 6 own, 7 bent, 8 row, 9 other, 10 whole, 11 product, 12 across, 13 x, 14 y, 15 good, 16 at, 17 mark, 18 told, 19 line, 20 bad, 21 act, 22 part) -/
def d40 : Def := ⟨1, [], 23, [
  .asg (.var 1) (.call 29 [(.var 0)]),
  .asg (.var 2) (.obin .Add (.int 1) (.call 30 [(.var 1), (.int 5)])),
  .asg (.tup [(.var 8), (.var 9)]) (.tup [(.call 37 [(.var 1), (.var 2)]), (.call 37 [(.var 1), (.var 2)])]),
  .asg (.tup [(.var 10), (.var 11), (.var 12)]) (.tup [(.mk 4 [(.int 0)]), (.mk 4 [(.int 1)]), (.mk 4 [(.int 0)])]),
  .for (.tup [(.var 13), (.var 14)]) (.zip (.var 8) (.var 9)) [.asg (.tup [(.var 10), (.var 11), (.var 12)]) (.tup [(.obin .Add (.var 10) (.var 13)), (.obin .Mult (.var 11) (.var 13)), (.obin .Add (.var 12) (.obin .Mult (.var 13) (.var 14)))])],
  .ite (.ocmp .NotEq (.lst [(.call 23 [(.var 8)]), (.call 23 [(.bi .list [(.var 8)])]), (.call 24 [(.var 8)]), (.call 25 [(.var 8), (.var 9)]), (.call 23 [(.tup [])]), (.call 24 [(.tup [])])]) (.lst [(.var 10), (.var 10), (.var 11), (.var 12), (.mk 4 [(.int 0)]), (.mk 4 [(.int 1)])])) [.ret (.bl false)] [],
  .for (.var 3) (.lst [(.var 8), (.bi .list [(.var 8)]), (.tup []), (.tup [(.mk 4 [(.int 1)]), (.int 1)]), (.tup [.non]), .non, (.int 5), (.str "x"), (.tup [(.var 8)])]) [.asg (.var 15) (.and (.isin (.var 3) [.tuple]) (.bi .all [(.comp (.isin (.var 13) [.cls 4]) (.var 13) (.var 3) (.bl true) [13])])), .ite (.not (.call 31 [(.call 21 [(.var 3)]), (.var 15)])) [.ret (.bl false)] []],
  .asg (.var 4) (.lst [(.obin .Sub (.call 30 [(.var 1), (.int 9)]) (.int 4)), (.idx (.var 8) (.int 0)), (.int 0)]),
  .ite (.or (.ocmp .NotEq (.call 22 [(.var 4)]) (.tup [(.mk 4 [(.idx (.var 4) (.int 0))]), (.idx (.var 8) (.int 0)), (.mk 4 [(.int 0)])])) (.or (.ocmp .NotEq (.call 22 [(.bi .tuple [(.var 4)])]) (.call 22 [(.var 4)])) (.ocmp .NotEq (.call 22 [(.tup [])]) (.tup [])))) [.ret (.bl false)] [],
  .ite (.ocmp .NotEq (.comp (.idx (.call 35 [(.fn 22), (.tup [(.var 20)])]) (.int 0)) (.var 20) (.tup [.non, (.int 5), (.tup [.non]), (.tup [(.bl true)]), (.tup [(.str "1")]), (.dic [(1, 2)])]) (.bl true) [20]) (.obin .Mult (.lst [(.str "malformed")]) (.int 6))) [.ret (.bl false)] [],
  .asg (.var 5) (.mth .join (.str ",") [(.comp (.ostr (.var 13)) (.var 13) (.var 8) (.bl true) [13])]),
  .ite (.or (.not (.call 33 [(.call 26 [(.var 8)]), (.var 5)])) (.or (.ocmp .NotEq (.call 26 [(.tup [])]) (.str "-")) (.or (.ocmp .NotEq (.call 38 [(.fn 28), (.var 5)]) (.tup [(.str "told"), (.var 8)])) (.ocmp .NotEq (.call 38 [(.fn 28), (.str "-")]) (.tup [(.str "told"), (.tup [])]))))) [.ret (.bl false)] [],
  .asg (.var 6) (.ostr (.idx (.var 8) (.int 0))),
  .asg (.tup [(.var 16), (.var 17)]) (.tup [(.call 30 [(.var 1), (.obin .Add (.bi .len [(.var 6)]) (.int 1))]), (.idx (.str "019-/,. x") (.call 30 [(.var 1), (.int 9)]))]),
  .for (.var 7) (.tup [(.var 6), (.obin .Add (.obin .Add (.slc (.var 6) .non (.var 16)) (.var 17)) (.slc (.var 6) (.var 16) .non)), (.obin .Add (.slc (.var 6) .non (.var 16)) (.slc (.var 6) (.obin .Add (.var 16) (.int 1)) .non)), (.obin .Add (.str "0") (.var 6)), (.obin .Add (.var 6) (.str "/1")), (.obin .Add (.str "-") (.var 6)), (.str "2/4"), (.str "1/0"), (.str ""), (.str "-"), (.str "0/5"), (.obin .Mult (.str "1") (.int 401))]) [.asg (.var 15) (.call 39 [(.var 7)]), .asg (.var 18) (.call 38 [(.fn 27), (.var 7)]), .ite (.or (.ocmp .NotEq (.idx (.var 18) (.int 0)) (.ite (.var 15) (.str "told") (.str "text"))) (.or (.and (.not (.var 15)) (.ocmp .NotEq (.idx (.var 18) (.int 1)) (.int 0))) (.and (.var 15) (.ocmp .NotEq (.ostr (.idx (.var 18) (.int 1))) (.var 7))))) [.ret (.bl false)] [], .asg (.var 19) (.obin .Add (.obin .Add (.var 5) (.str ",")) (.var 7)), .ite (.ocmp .NotEq (.idx (.call 38 [(.fn 28), (.var 19)]) (.int 0)) (.ite (.bi .all [(.comp (.call 39 [(.var 22)]) (.var 22) (.mth .split (.var 19) [(.str ",")]) (.bl true) [22])]) (.str "told") (.str "text"))) [.ret (.bl false)] []],
  .ret (.ocmp .Eq (.comp (.call 38 [(.var 21), (.var 20)]) (.tup [(.var 21), (.var 20)]) (.tup [(.tup [(.fn 27), .non]), (.tup [(.fn 28), .non]), (.tup [(.fn 27), (.int 5)]), (.tup [(.fn 28), (.tup [(.str "1")])])]) (.bl true) [21, 20]) (.obin .Mult (.lst [(.tup [(.str "text"), (.int 0)])]) (.int 4)))]⟩
def clss : List ClsM := [{ fields := [], init := none, meths := [], up := [0], exc := true },
  { fields := [], init := none, meths := [], up := [1, 0], exc := true },
  { fields := ["reason"], init := none, meths := [], up := [2, 0], exc := true },
  { fields := ["at"], init := none, meths := [], up := [3, 0], exc := true },
  { fields := ["n", "d"], init := some 5, meths := [("__add__", 6), ("__sub__", 7), ("__mul__", 8), ("__neg__", 9), ("__eq__", 10), ("less", 11), ("__str__", 12), ("over", 13), ("times", 14), ("sign", 15), ("is_zero", 16), ("is_whole", 17), ("floor", 18), ("size", 19)], up := [4], exc := false }]
def defs : List Def := [d0, d1, d2, d3, d4, d5, d6, d7, d8, d9, d10, d11, d12, d13, d14, d15, d16, d17, d18, d19, d20, d21, d22, d23, d24, d25, d26, d27, d28, d29, d30, d31, d32, d33, d34, d35, d36, d37, d38, d39, d40]
def prog : Prog := { defs := defs, clss := clss, dcs := [] }
end Mch.k02

set_option maxHeartbeats 0
/-! ## k02: the text and the machine's program -/
namespace Mch.k02
open PySem PySem.Spec PyProof.Rows L2 Mch
abbrev prg : Program := (PySem.Challenge.rw_tetraroads_k02_whole_rows_and_texts_of_r).prog
def top (i : Nat) : Stmt := prg.main.body.getD i (.Pass ⟨0, 0, 0, 0⟩)
def clsBody : Stmt → List Stmt
  | .ClassDef _ _ _ b _ _ _ _ _ _ _ => b
  | _ => []
abbrev dd (a : Str × Option Str) (q : Str) (s : Stmt) (l : List He.Dv) : He.DefD := ⟨a, a.2.getD a.1, q, defArgs s, defBody s, defScope s, l, []⟩
abbrev f0 : FS := { d := dd ("_wall", none) "_wall" (top 0) [], ps := ["k"], N := ["k"], ob := true }
abbrev f1 : FS := { d := dd ("Refused", some "__init__") "Refused.__init__" ((clsBody (top 4)).getD 0 (.Pass ⟨0, 0, 0, 0⟩)) [], ps := ["self", "reason"], N := ["self", "reason"], kd := .xin 2 "reason" "Fault" }
abbrev f2 : FS := { d := dd ("NoText", some "__init__") "NoText.__init__" ((clsBody (top 5)).getD 0 (.Pass ⟨0, 0, 0, 0⟩)) [], ps := ["self", "at"], N := ["self", "at"], kd := .xin 3 "at" "Fault" }
abbrev f3 : FS := { d := dd ("is_integer", none) "is_integer" (top 7) [], ps := ["value"], N := ["value"] }
abbrev f4 : FS := { d := dd ("common", none) "common" (top 8) [], ps := ["a", "b"], N := ["a", "b"] }
abbrev f5 : FS := { d := dd ("Ratio", some "__init__") "Ratio.__init__" ((clsBody (top 11)).getD 0 (.Pass ⟨0, 0, 0, 0⟩)) [.int 1], ps := ["self", "n", "d"], N := ["self", "n", "d", "g"], kd := .ini 4, ob := true }
abbrev f6 : FS := { d := dd ("Ratio", some "__add__") "Ratio.__add__" ((clsBody (top 11)).getD 1 (.Pass ⟨0, 0, 0, 0⟩)) [], ps := ["self", "other"], N := ["self", "other"], ob := true }
abbrev f7 : FS := { d := dd ("Ratio", some "__sub__") "Ratio.__sub__" ((clsBody (top 11)).getD 2 (.Pass ⟨0, 0, 0, 0⟩)) [], ps := ["self", "other"], N := ["self", "other"], ob := true }
abbrev f8 : FS := { d := dd ("Ratio", some "__mul__") "Ratio.__mul__" ((clsBody (top 11)).getD 3 (.Pass ⟨0, 0, 0, 0⟩)) [], ps := ["self", "other"], N := ["self", "other"], ob := true }
abbrev f9 : FS := { d := dd ("Ratio", some "__neg__") "Ratio.__neg__" ((clsBody (top 11)).getD 4 (.Pass ⟨0, 0, 0, 0⟩)) [], ps := ["self"], N := ["self"], ob := true }
abbrev f10 : FS := { d := dd ("Ratio", some "__eq__") "Ratio.__eq__" ((clsBody (top 11)).getD 5 (.Pass ⟨0, 0, 0, 0⟩)) [], ps := ["self", "other"], N := ["self", "other"], ob := true }
abbrev f11 : FS := { d := dd ("Ratio", some "less") "Ratio.less" ((clsBody (top 11)).getD 6 (.Pass ⟨0, 0, 0, 0⟩)) [], ps := ["self", "other"], N := ["self", "other"], ob := true }
abbrev f12 : FS := { d := dd ("Ratio", some "__str__") "Ratio.__str__" ((clsBody (top 11)).getD 7 (.Pass ⟨0, 0, 0, 0⟩)) [], ps := ["self"], N := ["self"], ob := true }
abbrev f13 : FS := { d := dd ("Ratio", some "over") "Ratio.over" ((clsBody (top 11)).getD 8 (.Pass ⟨0, 0, 0, 0⟩)) [], ps := ["self", "other"], N := ["self", "other"], ob := true }
abbrev f14 : FS := { d := dd ("Ratio", some "times") "Ratio.times" ((clsBody (top 11)).getD 9 (.Pass ⟨0, 0, 0, 0⟩)) [], ps := ["self", "k"], N := ["self", "k"], ob := true }
abbrev f15 : FS := { d := dd ("Ratio", some "sign") "Ratio.sign" ((clsBody (top 11)).getD 10 (.Pass ⟨0, 0, 0, 0⟩)) [], ps := ["self"], N := ["self"], ob := true }
abbrev f16 : FS := { d := dd ("Ratio", some "is_zero") "Ratio.is_zero" ((clsBody (top 11)).getD 11 (.Pass ⟨0, 0, 0, 0⟩)) [], ps := ["self"], N := ["self"], ob := true }
abbrev f17 : FS := { d := dd ("Ratio", some "is_whole") "Ratio.is_whole" ((clsBody (top 11)).getD 12 (.Pass ⟨0, 0, 0, 0⟩)) [], ps := ["self"], N := ["self"], ob := true }
abbrev f18 : FS := { d := dd ("Ratio", some "floor") "Ratio.floor" ((clsBody (top 11)).getD 13 (.Pass ⟨0, 0, 0, 0⟩)) [], ps := ["self"], N := ["self"], ob := true }
abbrev f19 : FS := { d := dd ("Ratio", some "size") "Ratio.size" ((clsBody (top 11)).getD 14 (.Pass ⟨0, 0, 0, 0⟩)) [], ps := ["self"], N := ["self"], ob := true }
abbrev f20 : FS := { d := dd ("check_ratio", none) "check_ratio" (top 12) [], ps := ["value"], N := ["value"], ob := true }
abbrev f21 : FS := { d := dd ("is_ratio_row", none) "is_ratio_row" (top 13) [], ps := ["value"], N := ["value", "x"], ob := true }
abbrev f22 : FS := { d := dd ("ratios", none) "ratios" (top 14) [], ps := ["row"], N := ["row", "x"], ob := true, cx := true }
abbrev f23 : FS := { d := dd ("ratio_sum", none) "ratio_sum" (top 15) [], ps := ["row"], N := ["row", "found", "x"], ob := true }
abbrev f24 : FS := { d := dd ("ratio_product", none) "ratio_product" (top 16) [], ps := ["row"], N := ["row", "found", "x"], ob := true }
abbrev f25 : FS := { d := dd ("dot", none) "dot" (top 17) [], ps := ["one", "two"], N := ["one", "two", "x", "y"], ob := true }
abbrev f26 : FS := { d := dd ("ratios_text", none) "ratios_text" (top 18) [], ps := ["row"], N := ["row", "x"], ob := true }
abbrev f27 : FS := { d := dd ("read_ratio", none) "read_ratio" (top 19) [], ps := ["text"], N := ["text", "piece", "found", "top", "slash", "low", "c"], ob := true }
abbrev f28 : FS := { d := dd ("read_ratios", none) "read_ratios" (top 20) [], ps := ["text"], N := ["text", "piece"], ob := true, cx := true }
abbrev f29 : FS := { d := dd ("_law_state", none) "_law_state" (top 22) [], ps := ["script"], N := ["script", "seed", "total", "cell"] }
abbrev f30 : FS := { d := dd ("_law_take", none) "_law_take" (top 23) [], ps := ["state", "m"], N := ["state", "m", "value"] }
abbrev f31 : FS := { d := dd ("_law_says", none) "_law_says" (top 24) [], ps := ["value", "due"], N := ["value", "due"] }
abbrev f32 : FS := { d := dd ("_law_is_whole", none) "_law_is_whole" (top 25) [], ps := ["value"], N := ["value"] }
abbrev f33 : FS := { d := dd ("_law_same", none) "_law_same" (top 26) [], ps := ["one", "two"], N := ["one", "two", "k"] }
abbrev f34 : FS := { d := dd ("_law_common", none) "_law_common" (top 27) [], ps := ["a", "b"], N := ["a", "b"] }
abbrev f35 : FS := { d := dd ("_law_result", none) "_law_result" (top 28) [], ps := ["act", "given"], N := ["act", "given", "refused"] }
abbrev f36 : FS := { d := dd ("_law_num", none) "_law_num" (top 29) [], ps := ["state"], N := ["state"], ob := true }
abbrev f37 : FS := { d := dd ("_law_num_row", none) "_law_num_row" (top 30) [], ps := ["state", "many"], N := ["state", "many", "k"], ob := true }
abbrev f38 : FS := { d := dd ("_law_read", none) "_law_read" (top 31) [], ps := ["act", "text"], N := ["act", "text", "error"] }
abbrev f39 : FS := { d := dd ("_law_is_text", none) "_law_is_text" (top 32) [], ps := ["text"], N := ["text", "own", "parts", "part", "c"] }
abbrev f40 : FS := { d := dd ("law", none) "law" (top 33) [], ps := ["script"], N := ["script", "state", "extent", "value", "mixed", "text", "own", "bent", "row", "other", "whole", "product", "across", "x", "y", "good", "at", "mark", "told", "line", "bad", "act", "part"], ob := true }
abbrev fs : List FS := [f0, f1, f2, f3, f4, f5, f6, f7, f8, f9, f10, f11, f12, f13, f14, f15, f16, f17, f18, f19, f20, f21, f22, f23, f24, f25, f26, f27, f28, f29, f30, f31, f32, f33, f34, f35, f36, f37, f38, f39, f40]
abbrev clsN : List Str := ["Fault", "Malformed", "Refused", "NoText", "Ratio"]
abbrev blts : List Str := ["abs", "len", "all", "any", "int", "str", "tuple", "list", "range", "isinstance", "zip", "bool", "ValueError"]
abbrev Sp : Txt' := { fs := fs, cls := clsN, blts := blts, P := prog, ics := [("MOST_SIGNS", 400)], dcs := [] }
theorem b0 : BindP f0 := bind0 rfl rfl fun _ _ _ _ _ _ us hl => match us, hl with | [_], _ => rfl
theorem c0 : CmpP Sp f0 d0 := ⟨fun _ => by kernel_rfl, (fun _ _ _ z => by cases z), rfl, rfl, rfl, rfl, by kernel_rfl⟩
theorem b1 : BindP f1 := bind0 rfl rfl fun _ _ _ _ _ _ us hl => match us, hl with | [_, _], _ => rfl
theorem c1 : CmpP Sp f1 d1 := ⟨(fun z => by cases z), (fun _ _ _ z => by cases z; exact ⟨by kernel_rfl, by kernel_rfl, by kernel_rfl, by kernel_rfl, rfl, rfl, rfl⟩), rfl, rfl, rfl, rfl, by kernel_rfl⟩
theorem b2 : BindP f2 := bind0 rfl rfl fun _ _ _ _ _ _ us hl => match us, hl with | [_, _], _ => rfl
theorem c2 : CmpP Sp f2 d2 := ⟨(fun z => by cases z), (fun _ _ _ z => by cases z; exact ⟨by kernel_rfl, by kernel_rfl, by kernel_rfl, by kernel_rfl, rfl, rfl, rfl⟩), rfl, rfl, rfl, rfl, by kernel_rfl⟩
theorem b3 : BindP f3 := bind0 rfl rfl fun _ _ _ _ _ _ us hl => match us, hl with | [_], _ => rfl
theorem c3 : CmpP Sp f3 d3 := ⟨fun _ => by kernel_rfl, (fun _ _ _ z => by cases z), rfl, rfl, rfl, rfl, by kernel_rfl⟩
theorem b4 : BindP f4 := bind0 rfl rfl fun _ _ _ _ _ _ us hl => match us, hl with | [_, _], _ => rfl
theorem c4 : CmpP Sp f4 d4 := ⟨fun _ => by kernel_rfl, (fun _ _ _ z => by cases z), rfl, rfl, rfl, rfl, by kernel_rfl⟩
theorem b5 : BindP f5 := bindD rfl (fun z => by cases z) (by decide) fun j hj T kV doc pm an cdv ct us its hu hi => by
  have hj : j = 0 ∨ j = 1 := by have hj : j ≤ 1 := hj; omega
  rcases hj with rfl | rfl
  · exact (match us, hu, its, hi with | [_, _], _, [_], _ => ⟨_, rfl, rfl⟩)
  · exact (match us, hu, its, hi with | [_, _, _], _, [_], _ => ⟨_, rfl, rfl⟩)
theorem c5 : CmpP Sp f5 d5 := ⟨fun _ => by kernel_rfl, (fun _ _ _ z => by cases z), rfl, rfl, rfl, rfl, by kernel_rfl⟩
theorem b6 : BindP f6 := bind0 rfl rfl fun _ _ _ _ _ _ us hl => match us, hl with | [_, _], _ => rfl
theorem c6 : CmpP Sp f6 d6 := ⟨fun _ => by kernel_rfl, (fun _ _ _ z => by cases z), rfl, rfl, rfl, rfl, by kernel_rfl⟩
theorem b7 : BindP f7 := bind0 rfl rfl fun _ _ _ _ _ _ us hl => match us, hl with | [_, _], _ => rfl
theorem c7 : CmpP Sp f7 d7 := ⟨fun _ => by kernel_rfl, (fun _ _ _ z => by cases z), rfl, rfl, rfl, rfl, by kernel_rfl⟩
theorem b8 : BindP f8 := bind0 rfl rfl fun _ _ _ _ _ _ us hl => match us, hl with | [_, _], _ => rfl
theorem c8 : CmpP Sp f8 d8 := ⟨fun _ => by kernel_rfl, (fun _ _ _ z => by cases z), rfl, rfl, rfl, rfl, by kernel_rfl⟩
theorem b9 : BindP f9 := bind0 rfl rfl fun _ _ _ _ _ _ us hl => match us, hl with | [_], _ => rfl
theorem c9 : CmpP Sp f9 d9 := ⟨fun _ => by kernel_rfl, (fun _ _ _ z => by cases z), rfl, rfl, rfl, rfl, by kernel_rfl⟩
theorem b10 : BindP f10 := bind0 rfl rfl fun _ _ _ _ _ _ us hl => match us, hl with | [_, _], _ => rfl
theorem c10 : CmpP Sp f10 d10 := ⟨fun _ => by kernel_rfl, (fun _ _ _ z => by cases z), rfl, rfl, rfl, rfl, by kernel_rfl⟩
theorem b11 : BindP f11 := bind0 rfl rfl fun _ _ _ _ _ _ us hl => match us, hl with | [_, _], _ => rfl
theorem c11 : CmpP Sp f11 d11 := ⟨fun _ => by kernel_rfl, (fun _ _ _ z => by cases z), rfl, rfl, rfl, rfl, by kernel_rfl⟩
theorem b12 : BindP f12 := bind0 rfl rfl fun _ _ _ _ _ _ us hl => match us, hl with | [_], _ => rfl
theorem c12 : CmpP Sp f12 d12 := ⟨fun _ => by kernel_rfl, (fun _ _ _ z => by cases z), rfl, rfl, rfl, rfl, by kernel_rfl⟩
theorem b13 : BindP f13 := bind0 rfl rfl fun _ _ _ _ _ _ us hl => match us, hl with | [_, _], _ => rfl
theorem c13 : CmpP Sp f13 d13 := ⟨fun _ => by kernel_rfl, (fun _ _ _ z => by cases z), rfl, rfl, rfl, rfl, by kernel_rfl⟩
theorem b14 : BindP f14 := bind0 rfl rfl fun _ _ _ _ _ _ us hl => match us, hl with | [_, _], _ => rfl
theorem c14 : CmpP Sp f14 d14 := ⟨fun _ => by kernel_rfl, (fun _ _ _ z => by cases z), rfl, rfl, rfl, rfl, by kernel_rfl⟩
theorem b15 : BindP f15 := bind0 rfl rfl fun _ _ _ _ _ _ us hl => match us, hl with | [_], _ => rfl
theorem c15 : CmpP Sp f15 d15 := ⟨fun _ => by kernel_rfl, (fun _ _ _ z => by cases z), rfl, rfl, rfl, rfl, by kernel_rfl⟩
theorem b16 : BindP f16 := bind0 rfl rfl fun _ _ _ _ _ _ us hl => match us, hl with | [_], _ => rfl
theorem c16 : CmpP Sp f16 d16 := ⟨fun _ => by kernel_rfl, (fun _ _ _ z => by cases z), rfl, rfl, rfl, rfl, by kernel_rfl⟩
theorem b17 : BindP f17 := bind0 rfl rfl fun _ _ _ _ _ _ us hl => match us, hl with | [_], _ => rfl
theorem c17 : CmpP Sp f17 d17 := ⟨fun _ => by kernel_rfl, (fun _ _ _ z => by cases z), rfl, rfl, rfl, rfl, by kernel_rfl⟩
theorem b18 : BindP f18 := bind0 rfl rfl fun _ _ _ _ _ _ us hl => match us, hl with | [_], _ => rfl
theorem c18 : CmpP Sp f18 d18 := ⟨fun _ => by kernel_rfl, (fun _ _ _ z => by cases z), rfl, rfl, rfl, rfl, by kernel_rfl⟩
theorem b19 : BindP f19 := bind0 rfl rfl fun _ _ _ _ _ _ us hl => match us, hl with | [_], _ => rfl
theorem c19 : CmpP Sp f19 d19 := ⟨fun _ => by kernel_rfl, (fun _ _ _ z => by cases z), rfl, rfl, rfl, rfl, by kernel_rfl⟩
theorem b20 : BindP f20 := bind0 rfl rfl fun _ _ _ _ _ _ us hl => match us, hl with | [_], _ => rfl
theorem c20 : CmpP Sp f20 d20 := ⟨fun _ => by kernel_rfl, (fun _ _ _ z => by cases z), rfl, rfl, rfl, rfl, by kernel_rfl⟩
theorem b21 : BindP f21 := bind0 rfl rfl fun _ _ _ _ _ _ us hl => match us, hl with | [_], _ => rfl
theorem c21 : CmpP Sp f21 d21 := ⟨fun _ => by kernel_rfl, (fun _ _ _ z => by cases z), rfl, rfl, rfl, rfl, by kernel_rfl⟩
theorem b22 : BindP f22 := bind0 rfl rfl fun _ _ _ _ _ _ us hl => match us, hl with | [_], _ => rfl
theorem c22 : CmpP Sp f22 d22 := ⟨fun _ => by kernel_rfl, (fun _ _ _ z => by cases z), rfl, rfl, rfl, rfl, by kernel_rfl⟩
theorem b23 : BindP f23 := bind0 rfl rfl fun _ _ _ _ _ _ us hl => match us, hl with | [_], _ => rfl
theorem c23 : CmpP Sp f23 d23 := ⟨fun _ => by kernel_rfl, (fun _ _ _ z => by cases z), rfl, rfl, rfl, rfl, by kernel_rfl⟩
theorem b24 : BindP f24 := bind0 rfl rfl fun _ _ _ _ _ _ us hl => match us, hl with | [_], _ => rfl
theorem c24 : CmpP Sp f24 d24 := ⟨fun _ => by kernel_rfl, (fun _ _ _ z => by cases z), rfl, rfl, rfl, rfl, by kernel_rfl⟩
theorem b25 : BindP f25 := bind0 rfl rfl fun _ _ _ _ _ _ us hl => match us, hl with | [_, _], _ => rfl
theorem c25 : CmpP Sp f25 d25 := ⟨fun _ => by kernel_rfl, (fun _ _ _ z => by cases z), rfl, rfl, rfl, rfl, by kernel_rfl⟩
theorem b26 : BindP f26 := bind0 rfl rfl fun _ _ _ _ _ _ us hl => match us, hl with | [_], _ => rfl
theorem c26 : CmpP Sp f26 d26 := ⟨fun _ => by kernel_rfl, (fun _ _ _ z => by cases z), rfl, rfl, rfl, rfl, by kernel_rfl⟩
theorem b27 : BindP f27 := bind0 rfl rfl fun _ _ _ _ _ _ us hl => match us, hl with | [_], _ => rfl
theorem c27 : CmpP Sp f27 d27 := ⟨fun _ => by kernel_rfl, (fun _ _ _ z => by cases z), rfl, rfl, rfl, rfl, by kernel_rfl⟩
theorem b28 : BindP f28 := bind0 rfl rfl fun _ _ _ _ _ _ us hl => match us, hl with | [_], _ => rfl
theorem c28 : CmpP Sp f28 d28 := ⟨fun _ => by kernel_rfl, (fun _ _ _ z => by cases z), rfl, rfl, rfl, rfl, by kernel_rfl⟩
theorem b29 : BindP f29 := bind0 rfl rfl fun _ _ _ _ _ _ us hl => match us, hl with | [_], _ => rfl
theorem c29 : CmpP Sp f29 d29 := ⟨fun _ => by kernel_rfl, (fun _ _ _ z => by cases z), rfl, rfl, rfl, rfl, by kernel_rfl⟩
theorem b30 : BindP f30 := bind0 rfl rfl fun _ _ _ _ _ _ us hl => match us, hl with | [_, _], _ => rfl
theorem c30 : CmpP Sp f30 d30 := ⟨fun _ => by kernel_rfl, (fun _ _ _ z => by cases z), rfl, rfl, rfl, rfl, by kernel_rfl⟩
theorem b31 : BindP f31 := bind0 rfl rfl fun _ _ _ _ _ _ us hl => match us, hl with | [_, _], _ => rfl
theorem c31 : CmpP Sp f31 d31 := ⟨fun _ => by kernel_rfl, (fun _ _ _ z => by cases z), rfl, rfl, rfl, rfl, by kernel_rfl⟩
theorem b32 : BindP f32 := bind0 rfl rfl fun _ _ _ _ _ _ us hl => match us, hl with | [_], _ => rfl
theorem c32 : CmpP Sp f32 d32 := ⟨fun _ => by kernel_rfl, (fun _ _ _ z => by cases z), rfl, rfl, rfl, rfl, by kernel_rfl⟩
theorem b33 : BindP f33 := bind0 rfl rfl fun _ _ _ _ _ _ us hl => match us, hl with | [_, _], _ => rfl
theorem c33 : CmpP Sp f33 d33 := ⟨fun _ => by kernel_rfl, (fun _ _ _ z => by cases z), rfl, rfl, rfl, rfl, by kernel_rfl⟩
theorem b34 : BindP f34 := bind0 rfl rfl fun _ _ _ _ _ _ us hl => match us, hl with | [_, _], _ => rfl
theorem c34 : CmpP Sp f34 d34 := ⟨fun _ => by kernel_rfl, (fun _ _ _ z => by cases z), rfl, rfl, rfl, rfl, by kernel_rfl⟩
theorem b35 : BindP f35 := bind0 rfl rfl fun _ _ _ _ _ _ us hl => match us, hl with | [_, _], _ => rfl
theorem c35 : CmpP Sp f35 d35 := ⟨fun _ => by kernel_rfl, (fun _ _ _ z => by cases z), rfl, rfl, rfl, rfl, by kernel_rfl⟩
theorem b36 : BindP f36 := bind0 rfl rfl fun _ _ _ _ _ _ us hl => match us, hl with | [_], _ => rfl
theorem c36 : CmpP Sp f36 d36 := ⟨fun _ => by kernel_rfl, (fun _ _ _ z => by cases z), rfl, rfl, rfl, rfl, by kernel_rfl⟩
theorem b37 : BindP f37 := bind0 rfl rfl fun _ _ _ _ _ _ us hl => match us, hl with | [_, _], _ => rfl
theorem c37 : CmpP Sp f37 d37 := ⟨fun _ => by kernel_rfl, (fun _ _ _ z => by cases z), rfl, rfl, rfl, rfl, by kernel_rfl⟩
theorem b38 : BindP f38 := bind0 rfl rfl fun _ _ _ _ _ _ us hl => match us, hl with | [_, _], _ => rfl
theorem c38 : CmpP Sp f38 d38 := ⟨fun _ => by kernel_rfl, (fun _ _ _ z => by cases z), rfl, rfl, rfl, rfl, by kernel_rfl⟩
theorem b39 : BindP f39 := bind0 rfl rfl fun _ _ _ _ _ _ us hl => match us, hl with | [_], _ => rfl
theorem c39 : CmpP Sp f39 d39 := ⟨fun _ => by kernel_rfl, (fun _ _ _ z => by cases z), rfl, rfl, rfl, rfl, by kernel_rfl⟩
theorem b40 : BindP f40 := bind0 rfl rfl fun _ _ _ _ _ _ us hl => match us, hl with | [_], _ => rfl
theorem c40 : CmpP Sp f40 d40 := ⟨fun _ => by kernel_rfl, (fun _ _ _ z => by cases z), rfl, rfl, rfl, rfl, by kernel_rfl⟩
theorem allC : AllC Sp fs defs := ⟨c0, c1, c2, c3, c4, c5, c6, c7, c8, c9, c10, c11, c12, c13, c14, c15, c16, c17, c18, c19, c20, c21, c22, c23, c24, c25, c26, c27, c28, c29, c30, c31, c32, c33, c34, c35, c36, c37, c38, c39, c40, trivial⟩
theorem allB : AllB fs := ⟨b0, b1, b2, b3, b4, b5, b6, b7, b8, b9, b10, b11, b12, b13, b14, b15, b16, b17, b18, b19, b20, b21, b22, b23, b24, b25, b26, b27, b28, b29, b30, b31, b32, b33, b34, b35, b36, b37, b38, b39, b40, trivial⟩
end Mch.k02

set_option maxHeartbeats 0
/-! ## k02: the head -/
namespace Mch.k02
open PySem PySem.Spec PyProof.Rows L2 Mch
abbrev RW : PySem.W.OpenLaw := PySem.Challenge.rw_tetraroads_k02_whole_rows_and_texts_of_r
abbrev RR : PySem.W.OpenRow := PySem.W.OpenLaw.row RW
abbrev hk : PySem.W.Hook := hookM 5 Sp
def obH (s : PySem.W.SharedT) : He.AlD := obsMG 5 Sp (HandSHeadRun.getT s)
theorem obH_eq (s : PySem.W.SharedT) : obH s = hk.obs s.abs := obsMG_eq (HandSHeadRun.getT_eq s)
theorem headRunB (w : World) (b : Bool) : HandSHeadRun.RunEq RR (PySem.W.view RR.prog [33]) hk obH 4000 ["_wall", "Fault", "Malformed", "Refused", "NoText", "is_integer", "common", "MOST_SIGNS", "Ratio", "check_ratio", "is_ratio_row", "ratios", "ratio_sum", "ratio_product", "dot", "ratios_text", "read_ratio", "read_ratios", "_law_state", "_law_take", "_law_says", "_law_is_whole", "_law_same", "_law_common", "_law_result", "_law_num", "_law_num_row", "_law_read", "_law_is_text"] (setF w b) := by
  intro os
  cases b
  · kernel_rfl
  · kernel_rfl
theorem headRun (w : World) : HandSHeadRun.RunEq RR (PySem.W.view RR.prog [33]) hk obH 4000 ["_wall", "Fault", "Malformed", "Refused", "NoText", "is_integer", "common", "MOST_SIGNS", "Ratio", "check_ratio", "is_ratio_row", "ratios", "ratio_sum", "ratio_product", "dot", "ratios_text", "read_ratio", "read_ratios", "_law_state", "_law_take", "_law_says", "_law_is_whole", "_law_same", "_law_common", "_law_result", "_law_num", "_law_num_row", "_law_read", "_law_is_text"] w := by
  have := headRunB w (w.params.followText "special-get-raises")
  rw [setF_eq w] at this
  exact this
end Mch.k02

/-! ## Running the machine: what an end gives -/
namespace Mch
open PySem
/-- the run ends well, so -/
def R.To {α : Type} (r : R α) (Q : α → Mem → Prop) : Prop := match r with
  | .ok a μ => Q a μ
  | _ => False
def RS.To (r : RS) (Q : Fl → Mem → Prop) : Prop := match r with
  | .ok f μ => Q f μ
  | _ => False
section
variable {α β : Type} {r : R α} {s : RS} {Q Q' : α → Mem → Prop} {P P' : Fl → Mem → Prop}
theorem R.To.imp (h : r.To Q) (f : ∀ a μ, Q a μ → Q' a μ) : r.To Q' := by
  cases r with
  | ok a μ => exact f a μ h
  | exc x μ => exact h
  | no => exact h
theorem RS.To.imp (h : s.To P) (f : ∀ a μ, P a μ → P' a μ) : s.To P' := by
  cases s with
  | ok a μ => exact f a μ h
  | exc x σ μ => exact h
  | no => exact h
theorem R.To.bind {f : α → Mem → R β} {Q : β → Mem → Prop} (h : r.To fun a μ => (f a μ).To Q) : (r.bind f).To Q := by
  cases r with
  | ok a μ => exact h
  | exc x μ => exact h
  | no => exact h
theorem R.To.stm {σ : Env} {f : α → Mem → RS} (h : r.To fun a μ => (f a μ).To P) : (r.stm σ f).To P := by
  cases r with
  | ok a μ => exact h
  | exc x μ => exact h
  | no => exact h
/-- behind a statement -/
def goT (P : Fl → Mem → Prop) (k : Env → Mem → RS) : Fl → Mem → Prop
  | .next σ, μ => (k σ μ).To P
  | f, μ => P f μ
theorem RS.To.go {k : Env → Mem → RS} (h : s.To (goT P k)) : (s.go k).To P := by
  cases s with
  | ok f μ => cases f <;> exact h
  | exc x σ μ => exact h
  | no => exact h
theorem R.To.eq (h : r.To Q) : ∃ a μ, r = .ok a μ ∧ Q a μ := by
  cases r with
  | ok a μ => exact ⟨a, μ, rfl, h⟩
  | exc x μ => exact h.elim
  | no => exact h.elim
theorem RS.To.eq (h : s.To P) : ∃ a μ, s = .ok a μ ∧ P a μ := by
  cases s with
  | ok a μ => exact ⟨a, μ, rfl, h⟩
  | exc x σ μ => exact h.elim
  | no => exact h.elim
end
/-! ### memories -/
/-- μ' has what μ has, but for the cells of e -/
def Grow (e : List Nat) (μ μ' : Mem) : Prop := μ.length ≤ μ'.length ∧ ∀ j, j < μ.length → j ∉ e → μ'[j]? = μ[j]?
theorem Grow.refl (e : List Nat) (μ : Mem) : Grow e μ μ := ⟨Nat.le_refl _, fun _ _ _ => rfl⟩
theorem Grow.trans {e : List Nat} {μ μ1 μ2 : Mem} (a : Grow e μ μ1) (b : Grow e μ1 μ2) : Grow e μ μ2 :=
  ⟨Nat.le_trans a.1 b.1, fun j h n => (b.2 j (Nat.lt_of_lt_of_le h a.1) n).trans (a.2 j h n)⟩
theorem Grow.weak {e e' : List Nat} {μ μ1 : Mem} (a : Grow e μ μ1) (h : ∀ j ∈ e, j ∈ e') : Grow e' μ μ1 := ⟨a.1, fun j l n => a.2 j l fun m => n (h j m)⟩
theorem Grow.app (e : List Nat) (μ x : Mem) : Grow e μ (μ ++ x) := ⟨by simp, fun j h _ => List.getElem?_append_left h⟩
theorem Grow.get {e : List Nat} {μ μ1 : Mem} (a : Grow e μ μ1) {i : Nat} {c : Cell} (h : μ[i]? = some c) (n : i ∉ e) : μ1[i]? = some c := by
  rw [a.2 i (List.getElem?_eq_some_iff.mp h).1 n]
  exact h
theorem Grow.lst {e : List Nat} {μ μ1 : Mem} (a : Grow e μ μ1) {i : Nat} {xs : List MV} (h : lstAt μ i = some xs) (n : i ∉ e) : lstAt μ1 i = some xs := by
  have hi : i < μ.length := by
    unfold lstAt at h
    cases q : μ[i]? with
    | none => rw [q] at h; cases h
    | some c => exact (List.getElem?_eq_some_iff.mp q).1
  unfold lstAt at h ⊢
  rw [a.2 i hi n]
  exact h
theorem lstAt_new {μ : Mem} {xs : List MV} : lstAt (μ ++ [.lst xs]) μ.length = some xs := by
  unfold lstAt
  rw [List.getElem?_append_right (Nat.le_refl _), Nat.sub_self]
  rfl
theorem get_new {μ : Mem} {c : Cell} : (μ ++ [c])[μ.length]? = some c := by
  rw [List.getElem?_append_right (Nat.le_refl _), Nat.sub_self]
  rfl
theorem lstAt_lt {μ : Mem} {i : Nat} {xs : List MV} (h : lstAt μ i = some xs) : i < μ.length := by
  unfold lstAt at h
  cases q : μ[i]? with
  | none => rw [q] at h; cases h
  | some c => exact (List.getElem?_eq_some_iff.mp q).1
/-! ### loops -/
/-- behind a turn of a loop -/
def turnT (P : Fl → Mem → Prop) (I : Env → Mem → Prop) : Fl → Mem → Prop
  | .next σ, μ => I σ μ
  | .cnt σ, μ => I σ μ
  | .brk σ, μ => P (.next σ) μ
  | .ret v, μ => P (.ret v) μ
theorem forL_to {J : MV} {xs : List MV} {g : MV → Env → Option Env} {b : Env → Mem → RS} {P : Fl → Mem → Prop} (I : Nat → Env → Mem → Prop) (hit : ∀ i σ μ, I i σ μ → nth μ J i = some xs[i]?)
    (step : ∀ i x σ μ, xs[i]? = some x → I i σ μ → ∃ σ1, g x σ = some σ1 ∧ (b σ1 μ).To (turnT P (I (i + 1)))) (fin : ∀ σ μ, I xs.length σ μ → P (.next σ) μ) :
    ∀ (n i : Nat) (σ : Env) (μ : Mem), i ≤ xs.length → xs.length < n + i → I i σ μ → (forL J g b n i σ μ).To P
  | 0, i, σ, μ, h1, h2, _ => by omega
  | n + 1, i, σ, μ, h1, h2, hI => by
    simp only [forL, hit i σ μ hI]
    by_cases hi : i < xs.length
    · have hx : xs[i]? = some xs[i] := List.getElem?_eq_getElem hi
      obtain ⟨σ1, e1, hb⟩ := step i xs[i] σ μ hx hI
      simp only [hx, e1]
      revert hb
      cases b σ1 μ with
      | no => exact fun h => h.elim
      | exc x σ μ => exact fun h => h.elim
      | ok f μ2 => cases f with
        | next σ2 => exact fun h => forL_to I hit step fin n (i + 1) σ2 μ2 hi (by omega) h
        | cnt σ2 => exact fun h => forL_to I hit step fin n (i + 1) σ2 μ2 hi (by omega) h
        | brk σ2 => exact fun h => h
        | ret v => exact fun h => h
    · have e : i = xs.length := by omega
      subst e
      rw [List.getElem?_eq_none (Nat.le_refl _)]
      exact fin σ μ hI
theorem whileL_to {c : Env → Mem → R Bool} {b : Env → Mem → RS} {P : Fl → Mem → Prop} (I : Nat → Env → Mem → Prop)
    (step : ∀ m σ μ, I m σ μ → (c σ μ).To fun k μ' => if k = true then (∃ m', m = m' + 1 ∧ (b σ μ').To (turnT P (I m'))) else P (.next σ) μ') :
    ∀ (n m : Nat) (σ : Env) (μ : Mem), m < n → I m σ μ → (whileL c b n σ μ).To P
  | 0, m, σ, μ, h, _ => by omega
  | n + 1, m, σ, μ, h, hI => by
    simp only [whileL]
    refine R.To.stm ((step m σ μ hI).imp fun k μ' hk => ?_)
    cases k with
    | false =>
      rw [if_neg Bool.false_ne_true] at hk ⊢
      exact hk
    | true =>
      rw [if_pos rfl] at hk ⊢
      obtain ⟨m', rfl, hb⟩ := hk
      revert hb
      cases b σ μ' with
      | no => exact fun h => h.elim
      | exc x σ μ => exact fun h => h.elim
      | ok f μ2 => cases f with
        | next σ2 => exact fun h => whileL_to I step n m' σ2 μ2 (by omega) h
        | cnt σ2 => exact fun h => whileL_to I step n m' σ2 μ2 (by omega) h
        | brk σ2 => exact fun h => h
        | ret v => exact fun h => h
theorem compL_to {J : MV} {xs : List MV} {body : List MV → MV → Mem → R (List MV)} {Q : List MV → Mem → Prop} (I : Nat → List MV → Mem → Prop) (hit : ∀ i acc μ, I i acc μ → nth μ J i = some xs[i]?)
    (step : ∀ i x acc μ, xs[i]? = some x → I i acc μ → (body acc x μ).To (I (i + 1))) (fin : ∀ acc μ, I xs.length acc μ → Q acc μ) :
    ∀ (n i : Nat) (acc : List MV) (μ : Mem), i ≤ xs.length → xs.length < n + i → I i acc μ → (compL J body n i acc μ).To Q
  | 0, i, acc, μ, h1, h2, _ => by omega
  | n + 1, i, acc, μ, h1, h2, hI => by
    simp only [compL, hit i acc μ hI]
    by_cases hi : i < xs.length
    · have hx : xs[i]? = some xs[i] := List.getElem?_eq_getElem hi
      have hb := step i xs[i] acc μ hx hI
      simp only [hx]
      exact R.To.bind (hb.imp fun acc' μ' h => compL_to I hit step fin n (i + 1) acc' μ' hi (by omega) h)
    · have e : i = xs.length := by omega
      subst e
      rw [List.getElem?_eq_none (Nat.le_refl _)]
      exact fin acc μ hI
/-- a range's ints -/
def rngL (lo : Int) (n : Nat) (st : Int) : List MV := (List.range n).map fun (i : Nat) => .int (lo + i * st)
@[simp] theorem rngL_len {lo : Int} {n : Nat} {st : Int} : (rngL lo n st).length = n := by simp [rngL]
theorem mem_rngL {lo : Int} {n : Nat} {x : MV} (h : x ∈ rngL lo n 1) : ∃ k : Int, x = .int k ∧ lo ≤ k ∧ k < lo + n := by
  obtain ⟨i, h1, rfl⟩ := List.mem_map.mp h
  have := List.mem_range.mp h1
  exact ⟨_, rfl, by omega, by omega⟩
/-- what is walked: its items -/
def items (μ : Mem) : MV → Option (List MV)
  | .tup xs => some xs
  | .ref a => lstAt μ a
  | .rng lo n st => some (rngL lo n st)
  | .str s => if s.length ≤ sizeLine then some (s.cps.toList.map fun c => .str ⟨#[c]⟩) else none
  | .zp (.tup xs) (.tup ys) => some ((xs.zip ys).map fun p => .tup [p.1, p.2])
  | _ => none
theorem items_zp {μ : Mem} {a b : MV} {xs : List MV} (h : items μ (.zp a b) = some xs) : ∃ us vs, a = .tup us ∧ b = .tup vs ∧ xs = (us.zip vs).map fun p => .tup [p.1, p.2] := by
  cases a <;> cases b <;> simp only [items, reduceCtorEq, Option.some.injEq] at h
  exact ⟨_, _, rfl, rfl, h.symm⟩
theorem nth_items {μ : Mem} {J : MV} {xs : List MV} (h : items μ J = some xs) (i : Nat) : nth μ J i = some xs[i]? := by
  cases J with
  | str s =>
    simp only [items] at h
    split at h
    · simp only [Option.some.injEq] at h
      subst h
      simp only [nth, List.getElem?_map]
    · cases h
  | tup ys => simp only [items, Option.some.injEq] at h; subst h; simp only [nth]
  | ref a => simp only [items] at h; simp only [nth, h, Option.map_some]
  | rng lo n st =>
    simp only [items, Option.some.injEq] at h
    subst h
    simp only [nth, rngL, List.getElem?_map]
    by_cases hi : i < n
    · rw [if_pos hi, List.getElem?_range hi]; rfl
    · rw [if_neg hi, List.getElem?_eq_none (by simpa using hi)]; rfl
  | zp a b =>
    obtain ⟨us, vs, rfl, rfl, rfl⟩ := items_zp h
    simp only [nth, List.getElem?_map, List.getElem?_zip_eq_some]
    cases h1 : us[i]? with
    | none =>
      rw [show (us.zip vs)[i]? = none from ?_]
      · rfl
      · rw [List.getElem?_eq_none_iff] at h1 ⊢
        simp only [List.length_zip]
        omega
    | some x =>
      cases h2 : vs[i]? with
      | none =>
        rw [show (us.zip vs)[i]? = none from ?_]
        · rfl
        · rw [List.getElem?_eq_none_iff] at h2 ⊢
          simp only [List.length_zip]
          omega
      | some y =>
        rw [show (us.zip vs)[i]? = some (x, y) from List.getElem?_zip_eq_some.mpr ⟨h1, h2⟩]
        rfl
  | non => simp only [items, reduceCtorEq] at h
  | bl b => simp only [items, reduceCtorEq] at h
  | int b => simp only [items, reduceCtorEq] at h
  | obj c vs => simp only [items, reduceCtorEq] at h
  | fn f => simp only [items, reduceCtorEq] at h
  | en a => simp only [items, reduceCtorEq] at h
  | exn c vs => simp only [items, reduceCtorEq] at h
  | dic k => simp only [items, reduceCtorEq] at h
theorem itM_items {μ : Mem} {J : MV} {xs : List MV} (h : items μ J = some xs) : itM μ J = .ok J μ := by
  cases J with
  | str s =>
    simp only [items] at h
    split at h
    · rename_i hz
      simp only [itM]
      rw [if_pos hz]
    · cases h
  | tup ys => simp only [itM]
  | ref a => simp only [items] at h; simp only [itM, h]
  | rng lo n st => simp only [itM]
  | zp a b => simp only [itM]
  | en a => simp only [items, reduceCtorEq] at h
  | non => simp only [items, reduceCtorEq] at h
  | bl b => simp only [items, reduceCtorEq] at h
  | int b => simp only [items, reduceCtorEq] at h
  | obj c vs => simp only [items, reduceCtorEq] at h
  | fn f => simp only [items, reduceCtorEq] at h
  | exn c vs => simp only [items, reduceCtorEq] at h
  | dic k => simp only [items, reduceCtorEq] at h
theorem Grow.items {μ μ1 : Mem} (a : Grow [] μ μ1) {J : MV} {xs : List MV} (h : items μ J = some xs) : Mch.items μ1 J = some xs := by
  cases J with
  | ref i => exact a.lst h (by simp)
  | zp x y =>
    obtain ⟨us, vs, rfl, rfl, rfl⟩ := items_zp h
    rfl
  | _ => exact h
/-! ### values: no functions, no references but to lists -/
/-- the value is plain data, or a list that is there -/
def DatM (μ : Mem) : MV → Prop
  | .non => True
  | .bl _ => True
  | .int _ => True
  | .str _ => True
  | .tup _ => True
  | .ref a => ∃ xs, lstAt μ a = some xs
  | _ => False
def isIntM : MV → Bool
  | .int _ => true
  | _ => false
def isBlM : MV → Bool
  | .bl _ => true
  | _ => false
def isTupM : MV → Bool
  | .tup _ => true
  | _ => false
def isStrM : MV → Bool
  | .str _ => true
  | _ => false
theorem ty_bool {P : Prog} {μ : Mem} {v : MV} (h : DatM μ v) : tysM P μ v [.bool] = some (isBlM v) := by
  cases v <;> simp only [DatM] at h <;> simp [tysM, tyM, isBlM]
  obtain ⟨xs, h⟩ := h
  rw [h]
  rfl
theorem ty_int {P : Prog} {μ : Mem} {v : MV} (h : DatM μ v) : tysM P μ v [.int] = some (isIntM v || isBlM v) := by
  cases v <;> simp only [DatM] at h <;> simp [tysM, tyM, isBlM, isIntM]
  obtain ⟨xs, h⟩ := h
  rw [h]
  rfl
theorem ty_tup {P : Prog} {μ : Mem} {v : MV} (h : DatM μ v) : tysM P μ v [.tuple] = some (isTupM v) := by
  cases v <;> simp only [DatM] at h <;> simp [tysM, tyM, isTupM]
  obtain ⟨xs, h⟩ := h
  rw [h]
  rfl
theorem ty_str {P : Prog} {μ : Mem} {v : MV} (h : DatM μ v) : tysM P μ v [.str] = some (isStrM v) := by
  cases v <;> simp only [DatM] at h <;> simp [tysM, tyM, isStrM]
  obtain ⟨xs, h⟩ := h
  rw [h]
  rfl
/-! ### equations -/
section
variable {T : Tab} {σ : Env} {μ : Mem} {α β : Type}
@[simp] theorem bind_ok' {a : α} {f : α → Mem → R β} : (R.ok a μ).bind f = f a μ := Eq.trans rfl rfl
@[simp] theorem stm_ok' {a : α} {f : α → Mem → RS} : (R.ok a μ).stm σ f = f a μ := Eq.trans rfl rfl
@[simp] theorem opt_some {a : α} : R.opt (some a) μ = .ok a μ := Eq.trans rfl rfl
@[simp] theorem calm_ok' {a : α} : R.calm (R.ok a μ) = .ok a μ := Eq.trans rfl rfl
@[simp] theorem go_next {k : Env → Mem → RS} : (RS.ok (.next σ) μ).go k = k σ μ := Eq.trans rfl rfl
@[simp] theorem go_ret {k : Env → Mem → RS} {v : MV} : (RS.ok (.ret v) μ).go k = .ok (.ret v) μ := Eq.trans rfl rfl
@[simp] theorem go_exc {k : Env → Mem → RS} {x : MX} : (RS.exc x σ μ).go k = .exc x σ μ := Eq.trans rfl rfl
@[simp] theorem bind_exc {x : MX} {f : α → Mem → R β} : (R.exc x μ : R α).bind f = .exc x μ := Eq.trans rfl rfl
@[simp] theorem stm_exc {x : MX} {f : α → Mem → RS} : (R.exc x μ : R α).stm σ f = .exc x σ μ := Eq.trans rfl rfl
@[simp] theorem To_ok {a : α} {Q : α → Mem → Prop} : (R.ok a μ).To Q ↔ Q a μ := ⟨fun h => h, fun h => h⟩
@[simp] theorem STo_ok {f : Fl} {Q : Fl → Mem → Prop} : (RS.ok f μ).To Q ↔ Q f μ := ⟨fun h => h, fun h => h⟩
@[simp] theorem E_non : evE T .non σ μ = .ok .non μ := by simp only [evE]
@[simp] theorem E_bl {b : Bool} : evE T (.bl b) σ μ = .ok (.bl b) μ := by simp only [evE]
@[simp] theorem E_int {i : Int} : evE T (.int i) σ μ = .ok (.int i) μ := by simp only [evE]
@[simp] theorem E_str {x : Str} : evE T (.str x) σ μ = .ok (.str x) μ := by simp only [evE]
@[simp] theorem E_fn {f : Nat} : evE T (.fn f) σ μ = .ok (.fn f) μ := by simp only [evE]
theorem E_var {i : Nat} {v : MV} (h : σ[i]? = some (some v)) : evE T (.var i) σ μ = .ok v μ := by simp only [evE, h]
@[simp] theorem E_var0 {v : MV} {r : Env} : evE T (.var 0) (some v :: r) μ = .ok v μ := E_var rfl
@[simp] theorem E_varS {i : Nat} {o : Option MV} {r : Env} : evE T (.var (i + 1)) (o :: r) μ = evE T (.var i) r μ := by simp only [evE, List.getElem?_cons_succ]
def negM (x : MV) (μ : Mem) : R MV := match x with
  | .int i => .ok (.int (-i)) μ
  | _ => .no
@[simp] theorem neg_int' {i : Int} : negM (.int i) μ = .ok (.int (-i)) μ := Eq.trans rfl rfl
@[simp] theorem E_neg {a : E} : evE T (.neg a) σ μ = (evE T a σ μ).bind negM := by
  simp only [evE]
  congr 1
@[simp] theorem E_not {a : E} : evE T (.not a) σ μ = (evE T a σ μ).bind fun x μ => (truR x μ).bind fun b μ => .ok (.bl (!b)) μ := by simp only [evE]
@[simp] theorem E_bin {op : Operator} {a b : E} : evE T (.bin op a b) σ μ = (evE T a σ μ).bind fun x μ => (evE T b σ μ).bind fun y μ => binM μ op x y := by simp only [evE]
@[simp] theorem E_cmp {op : CmpOp} {a b : E} : evE T (.cmp op a b) σ μ = (evE T a σ μ).bind fun x μ => (evE T b σ μ).bind fun y μ => (R.opt (cmpM μ op x y) μ).bind fun k μ => .ok (.bl k) μ := by simp only [evE]
@[simp] theorem E_cmp2 {o1 o2 : CmpOp} {a b c : E} : evE T (.cmp2 o1 o2 a b c) σ μ = (evE T a σ μ).bind fun x μ => (evE T b σ μ).bind fun y μ => (R.opt (cmpM μ o1 x y) μ).bind fun k μ =>
      if k then (evE T c σ μ).bind fun z μ => (R.opt (cmpM μ o2 y z) μ).bind fun k μ => .ok (.bl k) μ else .ok (.bl false) μ := by simp only [evE]
@[simp] theorem E_and {a b : E} : evE T (.and a b) σ μ = (evE T a σ μ).bind fun x μ => (truR x μ).bind fun k μ => if k then evE T b σ μ else .ok x μ := by simp only [evE]
@[simp] theorem E_or {a b : E} : evE T (.or a b) σ μ = (evE T a σ μ).bind fun x μ => (truR x μ).bind fun k μ => if k then .ok x μ else evE T b σ μ := by simp only [evE]
@[simp] theorem E_ite {c a b : E} : evE T (.ite c a b) σ μ = (evE T c σ μ).bind fun x μ => (truR x μ).bind fun k μ => if k then evE T a σ μ else evE T b σ μ := by simp only [evE]
@[simp] theorem E_tup {as : List E} : evE T (.tup as) σ μ = (evEs T as σ μ).bind fun xs μ => newT xs μ := by simp only [evE]
@[simp] theorem E_lst {as : List E} : evE T (.lst as) σ μ = (evEs T as σ μ).bind fun xs μ => newL xs μ := by simp only [evE]
@[simp] theorem E_idx {a b : E} : evE T (.idx a b) σ μ = (evE T a σ μ).bind fun x μ => (evE T b σ μ).bind fun y μ => R.opt (idxM μ x y) μ := by simp only [evE]
@[simp] theorem E_slc {a lo hi : E} : evE T (.slc a lo hi) σ μ = (evE T a σ μ).bind fun x μ => (partR lo.isNon (evE T lo σ μ) μ).bind fun l μ => (partR hi.isNon (evE T hi σ μ) μ).bind fun h μ => slcM μ x l h := by simp only [evE]
@[simp] theorem E_call {f : Nat} {as : List E} : evE T (.call f as) σ μ = (evEs T as σ μ).bind fun xs μ => T.call f xs μ := by simp only [evE]
theorem E_callv {i f : Nat} {as : List E} (h : σ[i]? = some (some (.fn f))) : evE T (.callv i as) σ μ = (evEs T as σ μ).bind fun xs μ => T.call f xs μ := by simp only [evE, h]
@[simp] theorem E_callv0 {f : Nat} {as : List E} {r : Env} : evE T (.callv 0 as) (some (.fn f) :: r) μ = (evEs T as (some (.fn f) :: r) μ).bind fun xs μ => T.call f xs μ := E_callv rfl
@[simp] theorem E_mk {c : Nat} {as : List E} : evE T (.mk c as) σ μ = (evEs T as σ μ).bind fun xs μ => T.make c xs μ := by simp only [evE]
@[simp] theorem E_bi {b : BI} {as : List E} : evE T (.bi b as) σ μ = (evEs T as σ μ).bind fun xs μ => biM μ b xs := by simp only [evE]
@[simp] theorem E_mth {m : Mt} {o : E} {as : List E} : evE T (.mth m o as) σ μ = (evE T o σ μ).bind fun x μ => if mthTy μ m x then (evEs T as σ μ).bind fun xs μ => mthM μ m x xs else .no := by simp only [evE]
@[simp] theorem E_isin {a : E} {ts : List TyR} : evE T (.isin a ts) σ μ = (evE T a σ μ).bind fun x μ => (R.opt (tysM T.P μ x ts) μ).bind fun k μ => .ok (.bl k) μ := by simp only [evE]
@[simp] theorem E_rng {as : List E} : evE T (.rng as) σ μ = (evEs T as σ μ).bind fun xs μ => rngM μ xs := by simp only [evE]
@[simp] theorem Es_nil : evEs T [] σ μ = .ok [] μ := by simp only [evEs]
@[simp] theorem Es_cons {e : E} {es : List E} : evEs T (e :: es) σ μ = (evE T e σ μ).bind fun x μ => (evEs T es σ μ).bind fun xs μ => .ok (x :: xs) μ := by simp only [evEs]
@[simp] theorem S_asg {t e : E} : evS T (.asg t e) σ μ = (evE T e σ μ).stm σ fun v μ => (R.calm (asgT T t v σ μ)).stm σ fun σ μ => .ok (.next σ) μ := by simp only [evS]
@[simp] theorem S_expr {e : E} : evS T (.expr e) σ μ = (evE T e σ μ).stm σ fun _ μ => .ok (.next σ) μ := by simp only [evS]
@[simp] theorem S_ite {c : E} {a b : List S} : evS T (.ite c a b) σ μ = (evE T c σ μ).stm σ fun x μ => (truR x μ).stm σ fun k μ => if k then evB T a σ μ else evB T b σ μ := by simp only [evS]
@[simp] theorem S_while {c : E} {b : List S} : evS T (.while c b) σ μ = whileL (fun σ μ => (evE T c σ μ).bind truR) (evB T b) T.n σ μ := by simp only [evS]
@[simp] theorem S_for {t it : E} {b : List S} : evS T (.for t it b) σ μ = (evE T it σ μ).stm σ fun J μ => (itM μ J).stm σ fun J μ => forL J (bindT t) (evB T b) T.n 0 σ μ := by simp only [evS]
@[simp] theorem S_ret {e : E} : evS T (.ret e) σ μ = (evE T e σ μ).stm σ fun v μ => .ok (.ret v) μ := by simp only [evS]
@[simp] theorem S_retN : evS T .retN σ μ = .ok (.ret .non) μ := by simp only [evS]
@[simp] theorem S_pass : evS T .pass σ μ = .ok (.next σ) μ := by simp only [evS]
@[simp] theorem S_brk : evS T .brk σ μ = .ok (.brk σ) μ := by simp only [evS]
@[simp] theorem S_cnt : evS T .cnt σ μ = .ok (.cnt σ) μ := by simp only [evS]
@[simp] theorem B_nil : evB T [] σ μ = .ok (.next σ) μ := by simp only [evB]
@[simp] theorem B_cons {s : S} {b : List S} : evB T (s :: b) σ μ = (evS T s σ μ).go fun σ μ => evB T b σ μ := by simp only [evB]
@[simp] theorem A_var {i : Nat} {v : MV} : asgT T (.var i) v σ μ = .ok (σ.set i (some v)) μ := by simp only [asgT]
@[simp] theorem A_idx {a b : E} {v : MV} : asgT T (.idx a b) v σ μ = (evE T a σ μ).bind fun x μ => (evE T b σ μ).bind fun y μ => (setM μ x y v).bind fun _ μ => .ok σ μ := by simp only [asgT]
@[simp] theorem A_tup {ts : List E} {xs : List MV} : asgT T (.tup ts) (.tup xs) σ μ = if xs.length = ts.length then asgT.go T ts xs σ μ else .no := by simp only [asgT]
@[simp] theorem Ag_nil : asgT.go T [] [] σ μ = .ok σ μ := by simp only [asgT.go]
@[simp] theorem Ag_cons {t : E} {ts : List E} {x : MV} {xs : List MV} : asgT.go T (t :: ts) (x :: xs) σ μ = (asgT T t x σ μ).bind fun σ μ => asgT.go T ts xs σ μ := by simp only [asgT.go]
@[simp] theorem tru_bl {b : Bool} : truR (.bl b) μ = .ok b μ := Eq.trans rfl rfl
@[simp] theorem tru_int {i : Int} : truR (.int i) μ = .ok (i != 0) μ := Eq.trans rfl rfl
@[simp] theorem T_var {i : Nat} {v : MV} : bindT (.var i) v σ = some (σ.set i (some v)) := by simp only [bindT]
theorem newT_ok' {xs : List MV} (h : xs.length ≤ sizeLine) : newT xs μ = .ok (.tup xs) μ := if_pos h
theorem newL_ok' {xs : List MV} (h : xs.length ≤ sizeLine) : newL xs μ = .ok (.ref μ.length) (μ ++ [.lst xs]) := if_pos h
/-- small rows -/
@[simp] theorem newT0 : newT [] μ = .ok (.tup []) μ := newT_ok' (by show 0 ≤ sizeLine; decide)
@[simp] theorem newT1 {a : MV} : newT [a] μ = .ok (.tup [a]) μ := newT_ok' (by show 1 ≤ sizeLine; decide)
@[simp] theorem newT2 {a b : MV} : newT [a, b] μ = .ok (.tup [a, b]) μ := newT_ok' (by show 2 ≤ sizeLine; decide)
@[simp] theorem newT3 {a b c : MV} : newT [a, b, c] μ = .ok (.tup [a, b, c]) μ := newT_ok' (by show 3 ≤ sizeLine; decide)
@[simp] theorem newT4 {a b c d : MV} : newT [a, b, c, d] μ = .ok (.tup [a, b, c, d]) μ := newT_ok' (by show 4 ≤ sizeLine; decide)
@[simp] theorem newT6 {a b c d e f : MV} : newT [a, b, c, d, e, f] μ = .ok (.tup [a, b, c, d, e, f]) μ := newT_ok' (by show 6 ≤ sizeLine; decide)
@[simp] theorem newL0 : newL [] μ = .ok (.ref μ.length) (μ ++ [.lst []]) := newL_ok' (by show 0 ≤ sizeLine; decide)
@[simp] theorem newL1 {a : MV} : newL [a] μ = .ok (.ref μ.length) (μ ++ [.lst [a]]) := newL_ok' (by show 1 ≤ sizeLine; decide)
@[simp] theorem newL2 {a b : MV} : newL [a, b] μ = .ok (.ref μ.length) (μ ++ [.lst [a, b]]) := newL_ok' (by show 2 ≤ sizeLine; decide)
end
/-! ### comparisons -/
@[simp] theorem eq_int {μ : Mem} {a b : Int} : eqM μ (.int a) (.int b) = some (decide (a = b)) := by
  simp only [eqM, toD, PyData.eqv, Option.some.injEq]
  exact Bool.eq_iff_iff.mpr (by simp)
@[simp] theorem eq_bl {μ : Mem} {a b : Bool} : eqM μ (.bl a) (.bl b) = some (decide (a = b)) := by
  simp [eqM, toD, PyData.eqv]
  cases a <;> cases b <;> rfl
@[simp] theorem cmp_eqi {μ : Mem} {a b : Int} : cmpM μ .Eq (.int a) (.int b) = some (decide (a = b)) := eq_int (μ := μ)
@[simp] theorem cmp_nei {μ : Mem} {a b : Int} : cmpM μ .NotEq (.int a) (.int b) = some (!decide (a = b)) := by
  simp only [cmpM, eq_int, Option.map_some]
@[simp] theorem cmp_lt {μ : Mem} {a b : Int} : cmpM μ .Lt (.int a) (.int b) = some (decide (a < b)) := Eq.trans rfl rfl
@[simp] theorem cmp_le {μ : Mem} {a b : Int} : cmpM μ .LtE (.int a) (.int b) = some (decide (a ≤ b)) := Eq.trans rfl rfl
@[simp] theorem cmp_gt {μ : Mem} {a b : Int} : cmpM μ .Gt (.int a) (.int b) = some (decide (b < a)) := Eq.trans rfl rfl
@[simp] theorem cmp_ge {μ : Mem} {a b : Int} : cmpM μ .GtE (.int a) (.int b) = some (decide (b ≤ a)) := Eq.trans rfl rfl
@[simp] theorem cmp_eqb {μ : Mem} {a b : Bool} : cmpM μ .Eq (.bl a) (.bl b) = some (decide (a = b)) := eq_bl (μ := μ)
/-! ### comprehensions -/
/-- a comprehension's turn: none, if the test says no -/
noncomputable def turnE (T : Tab) (cd elt : E) (σ1 : Env) (μ : Mem) : R (Option MV) := (evE T cd σ1 μ).bind fun k μ => (truR k μ).bind fun k μ => if k then (evE T elt σ1 μ).bind fun v μ => .ok (some v) μ else .ok none μ
/-- over items that stay, the item a function of the thing -/
theorem comp_gen {T : Tab} {σ : Env} {μ : Mem} {elt tg it cd : E} {own : List Nat} {J : MV} {μ1 : Mem} {xs : List MV} {Q : MV → Mem → Prop} (I : Nat → List MV → Mem → Prop) (hn : xs.length < T.n) (hz : xs.length ≤ sizeLine) (hi : evE T it σ μ = .ok J μ1) (hJ : items μ1 J = some xs)
    (h0 : I 0 [] μ1) (gi : ∀ i acc μ2, I i acc μ2 → items μ2 J = some xs ∧ acc.length ≤ i)
    (hstep : ∀ i x acc μ2, xs[i]? = some x → I i acc μ2 → ∃ σ1, bindT tg x (wipeM σ own) = some σ1 ∧ (turnE T cd elt σ1 μ2).To fun o μ3 => I (i + 1) (acc ++ o.toList) μ3)
    (hQ : ∀ acc μ2, I xs.length acc μ2 → Q (.ref μ2.length) (μ2 ++ [.lst acc])) : (evE T (.comp elt tg it cd own) σ μ).To Q := by
  simp only [evE, hi, bind_ok']
  rw [itM_items hJ]
  simp only [bind_ok']
  refine R.To.bind (compL_to (J := J) (xs := xs) (I := I) (fun i acc μ2 h => nth_items (gi i acc μ2 h).1 i) (fun i x acc μ2 hx h => ?_) (fun acc μ2 h => ?_) T.n 0 [] μ1 (Nat.zero_le _) (by omega) h0)
  · obtain ⟨σ1, e1, hs⟩ := hstep i x acc μ2 hx h
    have hl2 : acc.length < sizeLine := by
      have h1 := (gi i acc μ2 h).2
      have h2 := (List.getElem?_eq_some_iff.mp hx).1
      omega
    simp only [e1, opt_some, bind_ok']
    revert hs
    unfold turnE
    cases evE T cd σ1 μ2 with
    | no => exact fun h => h.elim
    | exc z μ => exact fun h => h.elim
    | ok kv μ3 =>
      simp only [bind_ok']
      cases truR kv μ3 with
      | no => exact fun h => h.elim
      | exc z μ => exact fun h => h.elim
      | ok k μ4 =>
        simp only [bind_ok']
        cases k with
        | false =>
          intro h
          simp only [if_neg Bool.false_ne_true, To_ok, Option.toList_none, List.append_nil] at h
          exact h
        | true =>
          rw [if_pos rfl, if_pos rfl]
          cases evE T elt σ1 μ4 with
          | no => exact fun h => h.elim
          | exc z μ => exact fun h => h.elim
          | ok v μ5 =>
            intro h
            simp only [bind_ok', putL, if_pos hl2, calm_ok', To_ok]
            exact h
  · rw [newL_ok' (by have := (gi _ acc μ2 h).2; omega)]
    exact hQ acc μ2 h
theorem take_succ' {α : Type} {xs : List α} {i : Nat} {x : α} (hx : xs[i]? = some x) : xs.take (i + 1) = xs.take i ++ [x] := by
  rw [List.take_add_one, hx]
  rfl
theorem fm_len {α β : Type} (f : α → Option β) (xs : List α) (i : Nat) : ((xs.take i).filterMap f).length ≤ i := by
  have h1 := List.length_filterMap_le f (xs.take i)
  rw [List.length_take] at h1
  omega
/-- .. nothing that is known is written -/
theorem comp_to {T : Tab} {σ : Env} {μ : Mem} {elt tg it cd : E} {own : List Nat} {J : MV} {μ1 : Mem} {xs : List MV} {Q : MV → Mem → Prop} (f : MV → Option MV) (hn : xs.length < T.n) (hz : xs.length ≤ sizeLine) (hi : evE T it σ μ = .ok J μ1) (hJ : items μ1 J = some xs)
    (hstep : ∀ x μ2, x ∈ xs → Grow [] μ1 μ2 → ∃ σ1, bindT tg x (wipeM σ own) = some σ1 ∧ (turnE T cd elt σ1 μ2).To fun o μ3 => o = f x ∧ Grow [] μ2 μ3)
    (hQ : ∀ μ2, Grow [] μ1 μ2 → Q (.ref μ2.length) (μ2 ++ [.lst (xs.filterMap f)])) : (evE T (.comp elt tg it cd own) σ μ).To Q := by
  refine comp_gen (I := fun i acc μ2 => acc = (xs.take i).filterMap f ∧ Grow [] μ1 μ2) hn hz hi hJ ⟨by simp, Grow.refl _ _⟩ (fun i acc μ2 h => ⟨h.2.items hJ, by rw [h.1]; exact fm_len f xs i⟩) (fun i x acc μ2 hx h => ?_) fun acc μ2 h => ?_
  · obtain ⟨rfl, g⟩ := h
    obtain ⟨σ1, e1, hs⟩ := hstep x μ2 (List.mem_of_getElem? hx) g
    refine ⟨σ1, e1, hs.imp fun o μ3 ho => ⟨?_, g.trans ho.2⟩⟩
    rw [take_succ' hx, List.filterMap_append, ho.1]
    congr 1
  · obtain ⟨rfl, g⟩ := h
    rw [List.take_length]
    exact hQ μ2 g
/-- .. the memory stays as it is -/
theorem comp_pure {T : Tab} {σ : Env} {μ : Mem} {elt tg it cd : E} {own : List Nat} {J : MV} {μ1 : Mem} {xs : List MV} (f : MV → Option MV) (hn : xs.length < T.n) (hz : xs.length ≤ sizeLine) (hi : evE T it σ μ = .ok J μ1) (hJ : items μ1 J = some xs)
    (hstep : ∀ x, x ∈ xs → ∃ σ1, bindT tg x (wipeM σ own) = some σ1 ∧ turnE T cd elt σ1 μ1 = .ok (f x) μ1) : evE T (.comp elt tg it cd own) σ μ = .ok (.ref μ1.length) (μ1 ++ [.lst (xs.filterMap f)]) := by
  have : (evE T (.comp elt tg it cd own) σ μ).To fun v μ' => v = .ref μ1.length ∧ μ' = μ1 ++ [.lst (xs.filterMap f)] := by
    refine comp_gen (I := fun i acc μ2 => acc = (xs.take i).filterMap f ∧ μ2 = μ1) hn hz hi hJ ⟨by simp, rfl⟩ (fun i acc μ2 h => ⟨by rw [h.2]; exact hJ, by rw [h.1]; exact fm_len f xs i⟩) (fun i x acc μ2 hx h => ?_) fun acc μ2 h => ?_
    · obtain ⟨rfl, rfl⟩ := h
      obtain ⟨σ1, e1, hs⟩ := hstep x (List.mem_of_getElem? hx)
      refine ⟨σ1, e1, ?_⟩
      rw [hs]
      refine ⟨?_, rfl⟩
      rw [take_succ' hx, List.filterMap_append]
      congr 1
    · obtain ⟨rfl, rfl⟩ := h
      rw [List.take_length]
      exact ⟨rfl, rfl⟩
  obtain ⟨v, μ', e, rfl, rfl⟩ := this.eq
  exact e
theorem fm_some {α β : Type} (f : α → β) (xs : List α) : xs.filterMap (fun x => some (f x)) = xs.map f := by
  induction xs with
  | nil => rfl
  | cons x xs ih => simp [ih]
theorem bls_map (l : List MV) (p : MV → Bool) : bls (l.map fun x => .bl (p x)) = some (l.map p) := by
  induction l with
  | nil => rfl
  | cons x l ih => simp only [List.map_cons, bls, ih, Option.map_some]
theorem strs_map (l : List MV) (p : MV → Str) : strs' (l.map fun x => .str (p x)) = some (l.map p) := by
  induction l with
  | nil => rfl
  | cons x l ih => simp only [List.map_cons, strs', ih, Option.map_some]
@[simp] theorem all_new {μ : Mem} {l : List MV} {p : MV → Bool} : biM (μ ++ [.lst (l.map fun x => .bl (p x))]) .all [.ref μ.length] = .ok (.bl (l.all p)) (μ ++ [.lst (l.map fun x => .bl (p x))]) := by
  simp only [biM, lstAt_new, Option.bind_some, bls_map]
  congr 2
  rw [List.all_map]
  rfl
@[simp] theorem any_new {μ : Mem} {l : List MV} {p : MV → Bool} : biM (μ ++ [.lst (l.map fun x => .bl (p x))]) .any [.ref μ.length] = .ok (.bl (l.any p)) (μ ++ [.lst (l.map fun x => .bl (p x))]) := by
  simp only [biM, lstAt_new, Option.bind_some, bls_map]
  congr 2
  rw [List.any_map]
  rfl
theorem flat_dat {μ : Mem} {v : MV} (h : flatM v = true) : DatM μ v := by
  cases v <;> simp only [flatM, Bool.false_eq_true, reduceCtorEq] at h <;> trivial
@[simp] theorem wipe_nil {σ : Env} : wipeM σ [] = σ := Eq.trans rfl rfl
@[simp] theorem wipe_cons {σ : Env} {v : Nat} {vs : List Nat} : wipeM σ (v :: vs) = (wipeM σ vs).set v none := Eq.trans rfl rfl
/-- a call's end -/
def retT (Q : MV → Mem → Prop) : Fl → Mem → Prop
  | .ret v, μ => Q v μ
  | .next _, μ => Q .non μ
  | _, _ => False
theorem runD_to {T : Tab} {D : Def} {args : List MV} {μ : Mem} {Q : MV → Mem → Prop} (hf : fullArgs D args = args) (hl : args.length = D.np) (h : (evB T D.body (slots D args) μ).To (retT Q)) : (runD T D args μ).To Q := by
  unfold runD
  rw [hf, if_pos hl]
  revert h
  cases evB T D.body (slots D args) μ with
  | no => exact fun h => h.elim
  | exc x σ ν => exact fun h => h.elim
  | ok f ν => cases f <;> exact fun h => h
theorem R.To.is {α : Type} {r : R α} {a : α} {μ : Mem} (h : r.To fun b ν => b = a ∧ ν = μ) : r = .ok a μ := by
  obtain ⟨b, ν, e, rfl, rfl⟩ := h.eq
  exact e
@[simp] theorem retT_ret {Q : MV → Mem → Prop} {v : MV} {μ : Mem} : retT Q (.ret v) μ ↔ Q v μ := ⟨fun h => h, fun h => h⟩
@[simp] theorem goT_next {P : Fl → Mem → Prop} {k : Env → Mem → RS} {σ : Env} {μ : Mem} : goT P k (.next σ) μ ↔ (k σ μ).To P := ⟨fun h => h, fun h => h⟩
@[simp] theorem goT_ret {P : Fl → Mem → Prop} {k : Env → Mem → RS} {v : MV} {μ : Mem} : goT P k (.ret v) μ ↔ P (.ret v) μ := ⟨fun h => h, fun h => h⟩
@[simp] theorem turnT_next {P : Fl → Mem → Prop} {I : Env → Mem → Prop} {σ : Env} {μ : Mem} : turnT P I (.next σ) μ ↔ I σ μ := ⟨fun h => h, fun h => h⟩
@[simp] theorem turnT_ret {P : Fl → Mem → Prop} {I : Env → Mem → Prop} {v : MV} {μ : Mem} : turnT P I (.ret v) μ ↔ P (.ret v) μ := ⟨fun h => h, fun h => h⟩
/-! ### comprehensions of two clauses, rows -/
theorem flatMap_split {α β : Type} {xs : List α} {f : α → List β} {i : Nat} {x : α} (h : xs[i]? = some x) : (xs.flatMap f).length = ((xs.take i).flatMap f).length + (f x).length + ((xs.drop (i + 1)).flatMap f).length := by
  have hi := (List.getElem?_eq_some_iff.mp h).1
  have e : xs = xs.take i ++ x :: xs.drop (i + 1) := by
    rw [← (List.getElem?_eq_some_iff.mp h).2, List.getElem_cons_drop, List.take_append_drop]
  have e2 : (xs.flatMap f).length = ((xs.take i ++ x :: xs.drop (i + 1)).flatMap f).length := by rw [← e]
  rw [e2, List.flatMap_append, List.flatMap_cons, List.length_append, List.length_append]
  omega
theorem comp2_pure {T : Tab} {σ : Env} {μ : Mem} {elt tg it tg1 it1 : E} {own own1 : List Nat} {J : MV} {μ1 : Mem} {xs : List MV} (J1 : MV → MV) (ys : MV → List MV) (f : MV → MV → MV) (hn : xs.length < T.n) (hi : evE T it σ μ = .ok J μ1) (hJ : items μ1 J = some xs) (hz : (xs.flatMap fun x => (ys x).map (f x)).length ≤ sizeLine)
    (hstep : ∀ x, x ∈ xs → ∃ σ1, bindT tg x (wipeM σ own) = some σ1 ∧ evE T it1 σ1 μ1 = .ok (J1 x) μ1 ∧ items μ1 (J1 x) = some (ys x) ∧ (ys x).length < T.n ∧ ∀ y, y ∈ ys x → ∃ σ2, bindT tg1 y (wipeM σ1 own1) = some σ2 ∧ evE T elt σ2 μ1 = .ok (f x y) μ1) :
    evE T (.comp2 elt tg it (.bl true) tg1 it1 (.bl true) own own1) σ μ = .ok (.ref μ1.length) (μ1 ++ [.lst (xs.flatMap fun x => (ys x).map (f x))]) := by
  refine R.To.is ?_
  simp only [evE, hi, bind_ok']
  rw [itM_items hJ]
  simp only [bind_ok']
  refine R.To.bind (compL_to (J := J) (xs := xs) (I := fun i acc μ2 => acc = ((xs.take i).flatMap fun x => (ys x).map (f x)) ∧ μ2 = μ1) (fun i acc μ2 h => by rw [h.2]; exact nth_items hJ i) (fun i x acc μ2 hx h => ?_) (fun acc μ2 h => ?_) T.n 0 [] μ1 (Nat.zero_le _) (by omega) ⟨by simp, rfl⟩)
  · obtain ⟨rfl, rfl⟩ := h
    obtain ⟨σ1, e1, e2, e3, e4, hs⟩ := hstep x (List.mem_of_getElem? hx)
    simp only [e1, opt_some, bind_ok', tru_bl, if_true, e2, itM_items e3]
    have hc : (compL (J1 x) (fun acc x μ => (R.opt (bindT tg1 x (wipeM σ1 own1)) μ).bind fun σ2 μ => (evE T elt σ2 μ).bind fun v μ => putL acc v μ) T.n 0 ((xs.take i).flatMap fun x => (ys x).map (f x)) μ2).To fun acc ν => acc = ((xs.take (i + 1)).flatMap fun x => (ys x).map (f x)) ∧ ν = μ2 := by
      refine compL_to (J := J1 x) (xs := ys x) (I := fun j acc ν => acc = ((xs.take i).flatMap fun x => (ys x).map (f x)) ++ ((ys x).take j).map (f x) ∧ ν = μ2) (fun j acc ν h => by rw [h.2]; exact nth_items e3 j) (fun j y acc ν hy h => ?_) (fun acc ν h => ?_) T.n 0 _ μ2 (Nat.zero_le _) (by omega) ⟨by simp, rfl⟩
      · obtain ⟨rfl, rfl⟩ := h
        obtain ⟨σ2, g1, g2⟩ := hs y (List.mem_of_getElem? hy)
        have hl := flatMap_split (f := fun x => (ys x).map (f x)) hx
        have hj := (List.getElem?_eq_some_iff.mp hy).1
        have hlt : (((xs.take i).flatMap fun x => (ys x).map (f x)) ++ ((ys x).take j).map (f x)).length < sizeLine := by
          rw [List.length_append, List.length_map, List.length_take]
          rw [List.length_map] at hl
          omega
        simp only [g1, opt_some, bind_ok', g2, putL, if_pos hlt, To_ok]
        rw [take_succ' hy, List.map_append, List.append_assoc]
        exact ⟨rfl, by trivial⟩
      · obtain ⟨rfl, rfl⟩ := h
        rw [take_succ' hx, List.flatMap_append, List.take_length]
        simp
    obtain ⟨a, ν, he, rfl, rfl⟩ := hc.eq
    rw [he]
    exact ⟨rfl, rfl⟩
  · obtain ⟨rfl, rfl⟩ := h
    rw [List.take_length, newL_ok' hz]
    exact ⟨rfl, rfl⟩
/-! ### data -/
mutual
theorem eqv_all : ∀ (n : Nat) (μ : Mem) (x : MV) (d : PyData), toD μ n x = some d → PyData.eqv d d = true
  | 0, μ, x, d, h => by simp only [toD] at h; cases h
  | n + 1, μ, x, d, h => by
    cases x <;> simp only [toD, reduceCtorEq, Option.some.injEq] at h
    · subst h; simp [PyData.eqv]
    · subst h; simp [PyData.eqv]
    · subst h; simp [PyData.eqv]
    · split at h
      · cases h; simp [PyData.eqv]
      · cases h
    · obtain ⟨ds, h1, rfl⟩ := Option.map_eq_some_iff.mp h
      rw [PyData.eqv]
      exact eqv_alls n μ _ ds h1
    · split at h
      · obtain ⟨ds, h1, rfl⟩ := Option.map_eq_some_iff.mp h
        rw [PyData.eqv]
        exact eqv_alls n μ _ ds h1
      · cases h
theorem eqv_alls : ∀ (n : Nat) (μ : Mem) (xs : List MV) (ds : List PyData), toDs (toD μ n) xs = some ds → PyData.eqvAll ds ds = true
  | n, μ, [], ds, h => by
    simp only [toDs, Option.some.injEq] at h
    subst h
    simp [PyData.eqvAll]
  | n, μ, x :: xs, ds, h => by
    simp only [toDs] at h
    split at h
    · rename_i d ds' h1 h2
      cases h
      rw [PyData.eqvAll, eqv_all n μ x d h1, eqv_alls n μ xs ds' h2]
      rfl
    · cases h
end
theorem toDs_some {f : MV → Option PyData} : ∀ {xs : List MV}, (∀ x ∈ xs, ∃ d, f x = some d) → ∃ ds, toDs f xs = some ds
  | [], _ => ⟨[], rfl⟩
  | x :: xs, h => by
    obtain ⟨d, h1⟩ := h x (by simp)
    obtain ⟨ds, h2⟩ := toDs_some (xs := xs) fun y hy => h y (by simp [hy])
    exact ⟨d :: ds, by simp only [toDs, h1, h2]⟩
theorem eq_self {μ : Mem} {x : MV} {d : PyData} (h : toD μ 40 x = some d) : eqM μ x x = some true := by
  simp only [eqM, h, eqv_all 40 μ x d h]
theorem eq_refs {μ : Mem} {a b : Nat} {xs : List MV} (ha : lstAt μ a = some xs) (hb : lstAt μ b = some xs) (h : ∀ x ∈ xs, ∃ d, toD μ 39 x = some d) : eqM μ (.ref a) (.ref b) = some true := by
  obtain ⟨ds, hd⟩ := toDs_some h
  have e1 : toD μ 40 (.ref a) = some (.list ds) := by
    show (match lstAt μ a with
      | some xs => (toDs (toD μ 39) xs).map PyData.list
      | none => none) = _
    rw [ha]
    simp only [hd, Option.map_some]
  have e2 : toD μ 40 (.ref b) = some (.list ds) := by
    show (match lstAt μ b with
      | some xs => (toDs (toD μ 39) xs).map PyData.list
      | none => none) = _
    rw [hb]
    simp only [hd, Option.map_some]
  simp only [eqM, e1, e2, eqv_all 40 μ _ _ e1]
theorem toD_int {μ : Mem} {n : Nat} {i : Int} : toD μ (n + 1) (.int i) = some (.int i) := by simp only [toD]
theorem toD_tup {μ : Mem} {n : Nat} {xs : List MV} (h : ∀ x ∈ xs, ∃ i : Int, x = .int i) : ∃ d, toD μ (n + 2) (.tup xs) = some d := by
  obtain ⟨ds, hd⟩ := toDs_some (f := toD μ (n + 1)) (xs := xs) fun x hx => by
    obtain ⟨i, rfl⟩ := h x hx
    exact ⟨_, toD_int⟩
  refine ⟨.tuple ds, ?_⟩
  show (toDs (toD μ (n + 1)) xs).map PyData.tuple = _
  rw [hd]
  rfl
end Mch

/-! ## whole numbers: what the machine's operators do -/
namespace Mch
open PySem
theorem fmod_lt' (a : Int) {b : Int} (h : b ≠ 0) : (a.fmod b).natAbs < b.natAbs := by
  rcases Int.lt_or_gt_of_ne h with h | h
  · have h1 := Int.fmod_nonneg_of_pos (-a) (b := -b) (by omega)
    have h2 := Int.fmod_lt_of_pos (-a) (b := -b) (by omega)
    rw [Int.neg_fmod_neg] at h1 h2
    omega
  · have h1 := Int.fmod_nonneg_of_pos a h
    have h2 := Int.fmod_lt_of_pos a h
    omega
theorem gcd_fmod (a b : Int) : Int.gcd b (a.fmod b) = Int.gcd a b := by
  rw [Int.fmod_def, Int.gcd_sub_mul_left_right, Int.gcd_comm]
theorem fdiv_abs (a b : Int) : (a.fdiv b).natAbs ≤ a.natAbs + 1 := by
  by_cases h : b = 0
  · subst h
    rw [Int.fdiv_zero]
    omega
  · have h1 := Int.mul_fdiv_add_fmod a b
    have h2 := fmod_lt' a h
    have h3 : (b * a.fdiv b).natAbs ≤ a.natAbs + (a.fmod b).natAbs := by
      have e : b * a.fdiv b = a - a.fmod b := by omega
      rw [e]
      omega
    rw [Int.natAbs_mul] at h3
    have hb : 0 < b.natAbs := by omega
    have h4 : b.natAbs * (a.fdiv b).natAbs < a.natAbs + b.natAbs := by omega
    by_cases hc : (a.fdiv b).natAbs ≤ a.natAbs + 1
    · exact hc
    · exfalso
      have h5 : a.natAbs + 2 ≤ (a.fdiv b).natAbs := by omega
      have h6 : b.natAbs * (a.natAbs + 2) ≤ b.natAbs * (a.fdiv b).natAbs := Nat.mul_le_mul_left _ h5
      have h7 : a.natAbs ≤ b.natAbs * a.natAbs := Nat.le_mul_of_pos_left _ hb
      rw [Nat.mul_add] at h6
      omega
theorem mulOk_l {i j : Int} (h : i.natAbs < 2 ^ 64) : mulOk i j = true := by
  unfold mulOk
  have h1 : -18446744073709551616 < i ∧ i < 18446744073709551616 := by omega
  simp [h1]
theorem mulOk_r {i j : Int} (h : j.natAbs < 2 ^ 64) : mulOk i j = true := by
  unfold mulOk
  have h1 : -18446744073709551616 < j ∧ j < 18446744073709551616 := by omega
  simp [h1]
theorem divOk_s {j : Int} (h : j ≠ 0) (h2 : j.natAbs < 1073741824) : divOk j = true := by
  unfold divOk
  simp [h, h2]
theorem abs_nat (a : Int) : (if a < 0 then -a else a) = (a.natAbs : Int) := by omega
section
variable {μ : Mem} {a b : Int}
@[simp] theorem bin_add : binM μ .Add (.int a) (.int b) = .ok (.int (a + b)) μ := Eq.trans rfl rfl
@[simp] theorem bin_sub : binM μ .Sub (.int a) (.int b) = .ok (.int (a - b)) μ := Eq.trans rfl rfl
theorem bin_mul (h : mulOk a b = true) : binM μ .Mult (.int a) (.int b) = .ok (.int (a * b)) μ := if_pos h
theorem bin_div (h : divOk b = true) : binM μ .FloorDiv (.int a) (.int b) = .ok (.int (a.fdiv b)) μ := if_pos h
theorem bin_mod (h : b ≠ 0) : binM μ .Mod (.int a) (.int b) = .ok (.int (a.fmod b)) μ := if_pos h
@[simp] theorem bi_abs : biM μ .abs [.int a] = .ok (.int (a.natAbs : Int)) μ := by
  rw [← abs_nat]
  rfl
@[simp] theorem bi_int : biM μ .int [.int a] = .ok (.int a) μ := Eq.trans rfl rfl
@[simp] theorem bi_intb {k : Bool} : biM μ .int [.bl k] = .ok (.int (if k then 1 else 0)) μ := Eq.trans rfl rfl
end
end Mch

/-! ## Objects: equations -/
namespace Mch
open PySem
section
variable {T : Tab} {σ : Env} {μ : Mem}
@[simp] theorem E_obin {op : Operator} {a b : E} : evE T (.obin op a b) σ μ = (evE T a σ μ).bind fun x μ => (evE T b σ μ).bind fun y μ => binT T μ op x y := by simp only [evE]
@[simp] theorem E_oneg {a : E} : evE T (.oneg a) σ μ = (evE T a σ μ).bind fun x μ => negT T μ x := by simp only [evE]
@[simp] theorem E_ocmp {op : CmpOp} {a b : E} : evE T (.ocmp op a b) σ μ = (evE T a σ μ).bind fun x μ => (evE T b σ μ).bind fun y μ => (cmpT T μ op x y).bind fun k μ => .ok (.bl k) μ := by simp only [evE]
@[simp] theorem E_ostr {a : E} : evE T (.ostr a) σ μ = (evE T a σ μ).bind fun x μ => strT T μ x := by simp only [evE]
@[simp] theorem E_fmt {a : E} : evE T (.fmt a) σ μ = (evE T a σ μ).bind fun x μ => fmtT T μ x := by simp only [evE]
@[simp] theorem fmtT_int {a : Int} : fmtT T μ (.int a) = fmtM μ (.int a) := Eq.trans rfl rfl
@[simp] theorem fmtT_str {a : Str} : fmtT T μ (.str a) = fmtM μ (.str a) := Eq.trans rfl rfl
@[simp] theorem fmtT_obj {c : Nat} {vs : List MV} : fmtT T μ (.obj c vs) = strT T μ (.obj c vs) := Eq.trans rfl rfl
def cdxM (P : Prog) (k : Nat) (x : MV) (μ : Mem) : R MV := match x with
    | .int i => R.opt ((P.dcs[k]?).bind fun D => (D.lookup i).map .int) μ
    | _ => .no
@[simp] theorem E_cdx {k : Nat} {a : E} : evE T (.cdx k a) σ μ = (evE T a σ μ).bind fun x μ => cdxM T.P k x μ := by
  simp only [evE]
  congr 1
@[simp] theorem E_fstr {as : List E} : evE T (.fstr as) σ μ = (evF T as Str.empty σ μ).bind fun y μ => .ok (.str y) μ := by simp only [evE]
@[simp] theorem F_nil {acc : Str} : evF T [] acc σ μ = .ok acc μ := by simp only [evF]
theorem F_cons {e : E} {es : List E} {acc y : Str} {ν : Mem} (h : evE T e σ μ = .ok (.str y) ν) (hl : (acc ++ y).length ≤ sizeLine) : evF T (e :: es) acc σ μ = evF T es (acc ++ y) σ ν := by
  simp only [evF, h, bind_ok', if_pos hl]
/-- a field of an object -/
def fldM (P : Prog) (f : Str) (x : MV) (μ : Mem) : R MV := match x with
  | .obj c vs => R.opt ((P.clss[c]?).bind fun C => if C.init.isSome then (C.fields.idxOf? f).bind fun j => vs[j]? else none) μ
  | _ => .no
@[simp] theorem E_fld {a : E} {f : Str} : evE T (.fld a f) σ μ = (evE T a σ μ).bind (fldM T.P f) := by
  simp only [evE]
  congr 1
theorem E_omth {m : Str} {o : E} {as : List E} {c f : Nat} {vs : List MV} {ν : Mem} (h : evE T o σ μ = .ok (.obj c vs) ν) (hm : methOf T.P c m = some f) : evE T (.omth m o as) σ μ = (evEs T as σ ν).bind fun xs μ => T.call f (.obj c vs :: xs) μ := by
  simp only [evE, h, bind_ok', hm]
@[simp] theorem binT_int {op : Operator} {a : Int} {y : MV} : binT T μ op (.int a) y = binM μ op (.int a) y := Eq.trans rfl rfl
@[simp] theorem binT_str {op : Operator} {a : Str} {y : MV} : binT T μ op (.str a) y = binM μ op (.str a) y := Eq.trans rfl rfl
@[simp] theorem binT_tup {op : Operator} {a : List MV} {y : MV} : binT T μ op (.tup a) y = binM μ op (.tup a) y := Eq.trans rfl rfl
@[simp] theorem binT_ref {op : Operator} {a : Nat} {y : MV} : binT T μ op (.ref a) y = binM μ op (.ref a) y := Eq.trans rfl rfl
theorem binT_obj {op : Operator} {c f : Nat} {vs : List MV} {y : MV} (hm : methOf T.P c (opName op) = some f) (ho : othB c μ y = true) : binT T μ op (.obj c vs) y = T.call f [.obj c vs, y] μ := by
  simp only [binT, hm, ho, if_true]
@[simp] theorem negT_int {a : Int} : negT T μ (.int a) = .ok (.int (-a)) μ := Eq.trans rfl rfl
theorem negT_obj {c f : Nat} {vs : List MV} (hm : methOf T.P c "__neg__" = some f) : negT T μ (.obj c vs) = T.call f [.obj c vs] μ := by
  simp only [negT, hm]
@[simp] theorem cmpT_int {op : CmpOp} {a : Int} {y : MV} : cmpT T μ op (.int a) y = R.opt (cmpM μ op (.int a) y) μ := Eq.trans rfl rfl
@[simp] theorem cmpT_bl {op : CmpOp} {a : Bool} {y : MV} : cmpT T μ op (.bl a) y = R.opt (cmpM μ op (.bl a) y) μ := Eq.trans rfl rfl
@[simp] theorem cmpT_non {op : CmpOp} {y : MV} : cmpT T μ op .non y = R.opt (cmpM μ op .non y) μ := Eq.trans rfl rfl
@[simp] theorem cmpT_str {op : CmpOp} {a : Str} {y : MV} : cmpT T μ op (.str a) y = R.opt (cmpM μ op (.str a) y) μ := Eq.trans rfl rfl
/-- rows as data -/
theorem cmpT_tup {op : CmpOp} {a : List MV} {y : MV} {k : Bool} (h : cmpM μ op (.tup a) y = some k) : cmpT T μ op (.tup a) y = .ok k μ := by
  show cmpS T μ op (.tup a) y = _
  unfold cmpS
  rw [h]
theorem cmpT_ref {op : CmpOp} {a : Nat} {y : MV} {k : Bool} (h : cmpM μ op (.ref a) y = some k) : cmpT T μ op (.ref a) y = .ok k μ := by
  show cmpS T μ op (.ref a) y = _
  unfold cmpS
  rw [h]
/-- rows with objects -/
theorem cmpT_tupO {op : CmpOp} {a : List MV} {y : MV} {k : Bool} (h : cmpM μ op (.tup a) y = none) (hk : isEq op = some k) (hs : sameO T μ 3 (.tup a) y) : cmpT T μ op (.tup a) y = .ok k μ := by
  show cmpS T μ op (.tup a) y = _
  unfold cmpS
  rw [h]
  simp only [hk]
  rw [if_pos hs]
theorem cmpT_refO {op : CmpOp} {a : Nat} {y : MV} {k : Bool} (h : cmpM μ op (.ref a) y = none) (hk : isEq op = some k) (hs : sameO T μ 3 (.ref a) y) : cmpT T μ op (.ref a) y = .ok k μ := by
  show cmpS T μ op (.ref a) y = _
  unfold cmpS
  rw [h]
  simp only [hk]
  rw [if_pos hs]
theorem othC_dat {P : Prog} {c : Nat} {v : MV} (hv : DatM μ v) (h : othB c μ v = true) : othC P c μ v = true := by
  cases v <;> simp only [DatM] at hv <;> exact h
theorem othC_self {P : Prog} {c : Nat} {vs : List MV} : othC P c μ (.obj c vs) = true := by simp [othC]
theorem cmpT_obj {op : CmpOp} {c f : Nat} {vs : List MV} {y : MV} {k : Bool} {ν : Mem} (hn : notEqO op = false) (hm : (cmName op).bind (methOf T.P c) = some f) (ho : othC T.P c μ y = true) (h : T.call f [.obj c vs, y] μ = .ok (.bl k) ν) : cmpT T μ op (.obj c vs) y = .ok k ν := by
  simp only [cmpT, hn, Bool.false_eq_true, if_false, hm, ho, if_true, h, bind_ok']
theorem cmpT_ne {c f : Nat} {vs : List MV} {y : MV} {k : Bool} {ν : Mem} (hm : methOf T.P c "__eq__" = some f) (hn : methOf T.P c "__ne__" = none) (ho : othC T.P c μ y = true) (h : T.call f [.obj c vs, y] μ = .ok (.bl k) ν) : cmpT T μ .NotEq (.obj c vs) y = .ok (!k) ν := by
  simp only [cmpT, show notEqO .NotEq = true from rfl, if_true, hm, hn, Option.isNone_none, Bool.true_and, ho, h, bind_ok']
@[simp] theorem strT_int {a : Int} : strT T μ (.int a) = biM μ .str [.int a] := Eq.trans rfl rfl
theorem strT_obj {c f : Nat} {vs : List MV} {s : Str} {ν : Mem} (hm : methOf T.P c "__str__" = some f) (h : T.call f [.obj c vs] μ = .ok (.str s) ν) : strT T μ (.obj c vs) = .ok (.str s) ν := by
  simp only [strT, hm, h, bind_ok']
theorem S_raise {c : Nat} {as : List E} {xs : List MV} {ν : Mem} {x : MX} (h : evEs T as σ μ = .ok xs ν) (hm : mkX T.P c xs = some x) : evS T (.raise c as) σ μ = .exc x σ ν := by
  simp only [evS, h, stm_ok', hm]
theorem S_setf {f : Str} {e : E} {v : MV} {ν : Mem} {c : Nat} {vs : List MV} {C : ClsM} (h : evE T e σ μ = .ok v ν) (h0 : σ[0]? = some (some (.obj c vs))) (hc : T.P.clss[c]? = some C) (hf : C.fields[vs.length]? = some f) : evS T (.setf f e) σ μ = .ok (.next (σ.set 0 (some (.obj c (vs ++ [v]))))) ν := by
  simp only [evS, h, stm_ok', h0, hc, hf, if_true]
theorem small_int {a : Int} {n : Nat} (h : a.natAbs.log2 < 1920) : biM μ .str [.int a] = .ok (.str (toString a : String)) μ := if_pos h
theorem fmt_int {a : Int} (h : a.natAbs.log2 < 1920) : fmtM μ (.int a) = .ok (.str (toString a : String)) μ := if_pos h
end
end Mch

/-! ## Fractions of ints, in lowest terms -/
namespace Mch
def upI (b : Int) : Int := if 0 < b then 1 else -1
/-- n over d is a over b, in lowest terms -/
structure Frac (a b n d : Int) : Prop where
  pos : 0 < d
  cop : Int.gcd n d = 1
  ex : ∃ g : Int, 0 < g ∧ upI b * a = g * n ∧ (b.natAbs : Int) = g * d
def rN (a b : Int) : Int := if 0 < b then a.fdiv (Int.gcd a b : Nat) else (-a).fdiv (Int.gcd a b : Nat)
def rD (a b : Int) : Int := (b.natAbs : Int).fdiv (Int.gcd a b : Nat)
theorem up_abs {b : Int} (hb : b ≠ 0) : b * upI b = (b.natAbs : Int) := by
  unfold upI
  split <;> omega
theorem up_sq (b : Int) : upI b * upI b = 1 := by
  unfold upI
  split <;> rfl
theorem gcd_abs (n m : Int) : Int.gcd n (m.natAbs : Int) = Int.gcd n m := by
  unfold Int.gcd
  rw [Int.natAbs_natCast]
theorem dvd_cop {d n k : Int} (h : d ∣ n * k) (hc : Int.gcd n d = 1) : d ∣ k := by
  have h1 := Int.natAbs_dvd_natAbs.mpr h
  rw [Int.natAbs_mul] at h1
  have h2 : Nat.Coprime d.natAbs n.natAbs := by
    unfold Nat.Coprime
    rw [Nat.gcd_comm]
    exact hc
  exact Int.natAbs_dvd_natAbs.mp (h2.dvd_of_dvd_mul_left h1)
theorem frac_make {a b : Int} (hb : b ≠ 0) : Frac a b (rN a b) (rD a b) := by
  have hg : 0 < Int.gcd a b := Int.gcd_pos_of_ne_zero_right _ hb
  have hgz : ((Int.gcd a b : Nat) : Int) ≠ 0 := by omega
  obtain ⟨n, hn⟩ := Int.gcd_dvd_left a b
  obtain ⟨m, hm⟩ := Int.gcd_dvd_right a b
  have hcop : Int.gcd n m = 1 := by
    have h1 : Int.gcd a b = Int.gcd ((Int.gcd a b : Nat) * n) ((Int.gcd a b : Nat) * m) := by rw [← hn, ← hm]
    rw [Int.gcd_mul_left] at h1
    have h2 : (((Int.gcd a b : Nat) : Int).natAbs) = Int.gcd a b := by simp
    rw [h2] at h1
    have h3 : Int.gcd a b * 1 = Int.gcd a b * Int.gcd n m := by omega
    exact (Nat.eq_of_mul_eq_mul_left hg h3).symm
  generalize hG : ((Int.gcd a b : Nat) : Int) = g at hn hm hgz
  have hgp : 0 < g := by omega
  have hab : (b.natAbs : Int) = g * (m.natAbs : Int) := by
    rw [hm, Int.natAbs_mul, Int.natCast_mul, Int.natAbs_of_nonneg (Int.le_of_lt hgp)]
  have hD : rD a b = (m.natAbs : Int) := by
    unfold rD
    rw [hG, hab, Int.mul_fdiv_cancel_left _ hgz]
  have hm0 : m ≠ 0 := by
    rintro rfl
    rw [Int.mul_zero] at hm
    exact hb hm
  have hN : rN a b = upI b * n := by
    unfold rN upI
    rw [hG]
    split
    · rw [hn, Int.mul_fdiv_cancel_left _ hgz, Int.one_mul]
    · rw [hn, ← Int.mul_neg, Int.mul_fdiv_cancel_left _ hgz]
      omega
  refine ⟨by rw [hD]; omega, ?_, g, hgp, ?_, by rw [hD]; exact hab⟩
  · rw [hD, hN]
    unfold upI
    split
    · rw [Int.one_mul, gcd_abs]
      exact hcop
    · have e : -1 * n = -n := by omega
      rw [e, gcd_abs, Int.neg_gcd]
      exact hcop
  · rw [hN, hn, ← Int.mul_assoc, ← Int.mul_assoc, Int.mul_comm (upI b) g]
section
variable {a b n d c e m k : Int}
/-- n over d = a over b -/
theorem Frac.eq (h : Frac a b n d) (hb : b ≠ 0) : n * b = a * d := by
  obtain ⟨g, hg, h1, h2⟩ := h.ex
  have h3 := up_abs hb
  have h4 := up_sq b
  have key : (n * b) * g = (a * d) * g := by grind
  exact Int.eq_of_mul_eq_mul_right (by omega) key
/-- the fraction is known by its value -/
theorem Frac.same (h : Frac a b n d) (h' : Frac c e m k) (hb : b ≠ 0) (he : e ≠ 0) : (n = m ∧ d = k) ↔ a * e = b * c := by
  have e1 := h.eq hb
  have e2 := h'.eq he
  have p1 := h.pos
  have p2 := h'.pos
  constructor
  · rintro ⟨rfl, rfl⟩
    have key : (a * e) * d = (b * c) * d := by grind
    exact Int.eq_of_mul_eq_mul_right (by omega) key
  · intro hx
    have hz : b * e ≠ 0 := Int.mul_ne_zero hb he
    have key : (n * k) * (b * e) = (m * d) * (b * e) := by grind
    have hc := Int.eq_of_mul_eq_mul_right hz key
    have d1 : d ∣ k := by
      have : d ∣ n * k := ⟨m, by rw [hc, Int.mul_comm]⟩
      exact dvd_cop this h.cop
    have d2 : k ∣ d := by
      have : k ∣ m * d := ⟨n, by rw [← hc, Int.mul_comm]⟩
      exact dvd_cop this h'.cop
    have dk : d = k := Int.le_antisymm (Int.le_of_dvd p2 d1) (Int.le_of_dvd p1 d2)
    subst dk
    exact ⟨Int.eq_of_mul_eq_mul_right (by omega) hc, rfl⟩
theorem Frac.lt (h : Frac a b n d) (h' : Frac c e m k) (hb : b ≠ 0) (he : 0 < e) : n * k < m * d ↔ a * e * upI b < c * b * upI b := by
  obtain ⟨g, hg, h1, h2⟩ := h.ex
  have e2 := h'.eq (by omega)
  have h3 := up_abs hb
  have p1 := h.pos
  have p2 := h'.pos
  -- both sides times a positive number
  have l1 : (n * k) * (g * e) = (a * e * upI b) * k := by grind
  have l2 : (m * d) * (g * e) = (c * b * upI b) * k := by grind
  have hge : 0 < g * e := Int.mul_pos hg he
  constructor
  · intro hx
    have := Int.mul_lt_mul_of_pos_right hx hge
    rw [l1, l2] at this
    exact Int.lt_of_mul_lt_mul_right this (by omega)
  · intro hx
    have := Int.mul_lt_mul_of_pos_right hx p2
    rw [← l1, ← l2] at this
    exact Int.lt_of_mul_lt_mul_right this (by omega)
theorem Frac.floor (h : Frac a b n d) (hb : b ≠ 0) : n.fdiv d = (a * upI b).fdiv (b.natAbs : Int) := by
  obtain ⟨g, hg, h1, h2⟩ := h.ex
  rw [h2, Int.mul_comm a, h1, Int.mul_fdiv_mul_of_pos _ _ hg]
theorem Frac.pos_iff (h : Frac a b n d) : 0 < n ↔ 0 < a * upI b := by
  obtain ⟨g, hg, h1, h2⟩ := h.ex
  rw [Int.mul_comm a, h1]
  constructor
  · exact fun hn => Int.mul_pos hg hn
  · exact fun hn => Int.pos_of_mul_pos_right hn (by omega)
theorem Frac.neg_iff (h : Frac a b n d) : n < 0 ↔ a * upI b < 0 := by
  obtain ⟨g, hg, h1, h2⟩ := h.ex
  rw [Int.mul_comm a, h1]
  constructor
  · exact fun hn => Int.mul_neg_of_pos_of_neg hg hn
  · intro hn
    by_cases hz : n < 0
    · exact hz
    · have : 0 ≤ g * n := Int.mul_nonneg (by omega) (by omega)
      omega
theorem Frac.zero_iff (h : Frac a b n d) (hb : b ≠ 0) : n = 0 ↔ a = 0 := by
  have := h.eq hb
  have p := h.pos
  constructor
  · rintro rfl
    rw [Int.zero_mul] at this
    rcases Int.mul_eq_zero.mp this.symm with z | z
    · exact z
    · omega
  · rintro rfl
    rw [Int.zero_mul] at this
    rcases Int.mul_eq_zero.mp this with z | z
    · exact z
    · exact absurd z hb
theorem Frac.whole_iff (h : Frac a b n d) (hb : b ≠ 0) : d = 1 ↔ a.fmod (b.natAbs : Int) = 0 := by
  have h0 := h.eq hb
  have p := h.pos
  have hdv : a.fmod (b.natAbs : Int) = 0 ↔ b ∣ a := by
    rw [← Int.natAbs_dvd (a := b)]
    exact (Int.dvd_iff_fmod_eq_zero ..).symm
  rw [hdv]
  constructor
  · rintro rfl
    exact ⟨n, by rw [Int.mul_comm, h0, Int.mul_one]⟩
  · rintro ⟨q, rfl⟩
    have key : n * b = (q * d) * b := by grind
    have hn := Int.eq_of_mul_eq_mul_right hb key
    have hc := h.cop
    rw [hn, Int.gcd_mul_left_left] at hc
    omega
/-- sums, differences, products -/
theorem Frac.fits (h : Frac a b n d) (h' : Frac c e m k) (hb : b ≠ 0) (he : e ≠ 0) {s u v : Int} (hs : Frac (n * k + m * d) (d * k) u v) : u * (b * e) = (a * e + c * b) * v := by
  have e1 := h.eq hb
  have e2 := h'.eq he
  have p1 := h.pos
  have p2 := h'.pos
  have hz : d * k ≠ 0 := Int.mul_ne_zero (by omega) (by omega)
  have e3 := hs.eq hz
  have key : (u * (b * e)) * (d * k) = ((a * e + c * b) * v) * (d * k) := by grind
  exact Int.eq_of_mul_eq_mul_right hz key
theorem Frac.sub (h : Frac a b n d) (h' : Frac c e m k) (hb : b ≠ 0) (he : e ≠ 0) {u v : Int} (hs : Frac (n * k - m * d) (d * k) u v) : u * (b * e) = (a * e - c * b) * v := by
  have e1 := h.eq hb
  have e2 := h'.eq he
  have p1 := h.pos
  have p2 := h'.pos
  have hz : d * k ≠ 0 := Int.mul_ne_zero (by omega) (by omega)
  have e3 := hs.eq hz
  have key : (u * (b * e)) * (d * k) = ((a * e - c * b) * v) * (d * k) := by grind
  exact Int.eq_of_mul_eq_mul_right hz key
theorem Frac.mul (h : Frac a b n d) (h' : Frac c e m k) (hb : b ≠ 0) (he : e ≠ 0) {u v : Int} (hs : Frac (n * m) (d * k) u v) : u * (b * e) = (a * c) * v := by
  have e1 := h.eq hb
  have e2 := h'.eq he
  have p1 := h.pos
  have p2 := h'.pos
  have hz : d * k ≠ 0 := Int.mul_ne_zero (by omega) (by omega)
  have e3 := hs.eq hz
  have key : (u * (b * e)) * (d * k) = ((a * c) * v) * (d * k) := by grind
  exact Int.eq_of_mul_eq_mul_right hz key
theorem Frac.over (h : Frac a b n d) (h' : Frac c e m k) (hb : b ≠ 0) (he : e ≠ 0) (hc : c ≠ 0) {u v : Int} (hs : Frac (n * k) (d * m) u v) : u * (b * c) = (a * e) * v := by
  have e1 := h.eq hb
  have e2 := h'.eq he
  have p1 := h.pos
  have p2 := h'.pos
  have hm : m ≠ 0 := fun z => hc ((h'.zero_iff he).mp z)
  have hz : d * m ≠ 0 := Int.mul_ne_zero (by omega) hm
  have e3 := hs.eq hz
  have key : (u * (b * c)) * (d * m * k) = ((a * e) * v) * (d * m * k) := by grind
  exact Int.eq_of_mul_eq_mul_right (Int.mul_ne_zero hz (by omega)) key
theorem Frac.neg (h : Frac a b n d) (hb : b ≠ 0) {u v : Int} (hs : Frac (-n) d u v) : u * b = (-a) * v := by
  have e1 := h.eq hb
  have p1 := h.pos
  have e3 := hs.eq (by omega)
  have key : (u * b) * d = ((-a) * v) * d := by grind
  exact Int.eq_of_mul_eq_mul_right (by omega) key
theorem Frac.times (h : Frac a b n d) (hb : b ≠ 0) {u v t : Int} (hs : Frac (n * t) d u v) : u * b = (a * t) * v := by
  have e1 := h.eq hb
  have p1 := h.pos
  have e3 := hs.eq (by omega)
  have key : (u * b) * d = ((a * t) * v) * d := by grind
  exact Int.eq_of_mul_eq_mul_right (by omega) key
theorem Frac.size (h : Frac a b n d) (hb : b ≠ 0) {u v : Int} (hs : Frac (n.natAbs : Int) d u v) : u * (b.natAbs : Int) = (a.natAbs : Int) * v := by
  obtain ⟨g, hg, h1, h2⟩ := h.ex
  have p1 := h.pos
  have e3 := hs.eq (by omega)
  have h4 : (a.natAbs : Int) = g * (n.natAbs : Int) := by
    have h5 : (upI b * a).natAbs = (g * n).natAbs := by rw [h1]
    rw [Int.natAbs_mul, Int.natAbs_mul] at h5
    have h6 : (upI b).natAbs = 1 := by unfold upI; split <;> rfl
    rw [h6, Nat.one_mul] at h5
    rw [h5, Int.natCast_mul, Int.natAbs_of_nonneg (Int.le_of_lt hg)]
  have key : (u * (b.natAbs : Int)) * d = ((a.natAbs : Int) * v) * d := by grind
  exact Int.eq_of_mul_eq_mul_right (by omega) key
/-- how big -/
theorem Frac.bd (h : Frac a b n d) (hb : b ≠ 0) : d ≤ (b.natAbs : Int) ∧ n.natAbs ≤ a.natAbs := by
  obtain ⟨g, hg, h1, h2⟩ := h.ex
  have p1 := h.pos
  constructor
  · rw [h2]
    have := Int.mul_le_mul_of_nonneg_right (show 1 ≤ g by omega) (show 0 ≤ d by omega)
    omega
  · have h5 : (upI b * a).natAbs = (g * n).natAbs := by rw [h1]
    rw [Int.natAbs_mul, Int.natAbs_mul] at h5
    have h6 : (upI b).natAbs = 1 := by unfold upI; split <;> rfl
    rw [h6, Nat.one_mul] at h5
    rw [h5]
    exact Nat.le_mul_of_pos_left _ (by omega)
end
end Mch

/-! ## Plain tools: texts, loops over few things, comprehensions that may raise -/
namespace Mch
open PySem
section
variable {T : Tab} {σ : Env} {μ : Mem}
theorem eq_str {a b : Str} (ha : PyData.strOk a = true) (hb : PyData.strOk b = true) : eqM μ (.str a) (.str b) = some (decide (a = b)) := by
  simp only [eqM, toD, if_pos ha, if_pos hb, PyData.eqv, Option.some.injEq]
  exact Bool.eq_iff_iff.mpr (by simp)
theorem cmp_eqs {a b : Str} (ha : PyData.strOk a = true) (hb : PyData.strOk b = true) : cmpM μ .Eq (.str a) (.str b) = some (decide (a = b)) := eq_str ha hb
theorem cmp_nes {a b : Str} (ha : PyData.strOk a = true) (hb : PyData.strOk b = true) : cmpM μ .NotEq (.str a) (.str b) = some (!decide (a = b)) := by
  simp only [cmpM, eq_str ha hb, Option.map_some]
theorem forL_two {x y : MV} {g : MV → Env → Option Env} {b : Env → Mem → RS} {n : Nat} (hn : 3 ≤ n) {σ1 : Env} (h1 : g x σ = some σ1) (h2 : ∀ σ, ∃ σ', g y σ = some σ') :
    forL (.tup [x, y]) g b n 0 σ μ = (b σ1 μ).turn fun σ μ => match g y σ with
      | some σ => (b σ μ).turn fun σ μ => .ok (.next σ) μ
      | none => .no := by
  obtain ⟨m, rfl⟩ : ∃ m, n = m + 3 := ⟨n - 3, by omega⟩
  have e0 : nth μ (.tup [x, y]) 0 = some (some x) := rfl
  simp only [forL, e0, h1]
  congr 1
noncomputable def bodyW (T : Tab) (elt tg : E) (own : List Nat) (σ : Env) : List MV → MV → Mem → R (List MV) := fun acc x μ => (R.opt (bindT tg x (wipeM σ own)) μ).bind fun σ1 μ => (R.calm ((evE T (.bl true) σ1 μ).bind fun k μ => truR k μ)).bind fun k μ =>
        if k then (evE T elt σ1 μ).bind fun v μ => putL acc v μ else .ok acc μ
theorem E_compX {elt tg it : E} {own : List Nat} : evE T (.compX elt tg it (.bl true) own) σ μ = (evE T it σ μ).bind fun J μ => (itM μ J).bind fun J μ => (compL J (bodyW T elt tg own σ) T.n 0 [] μ).bind fun xs μ => newL xs μ := by
  simp only [evE]
  rfl
theorem bodyW_eq {elt tg : E} {own : List Nat} {x : MV} {acc : List MV} {σ1 : Env} (hb : bindT tg x (wipeM σ own) = some σ1) : bodyW T elt tg own σ acc x μ = (evE T elt σ1 μ).bind fun v μ => putL acc v μ := by
  unfold bodyW
  simp only [hb, opt_some, bind_ok', E_bl, tru_bl, R.calm, if_true]
theorem compL_step {J : MV} {body : List MV → MV → Mem → R (List MV)} {n i : Nat} {acc : List MV} {x : MV} (h : nth μ J i = some (some x)) : compL J body (n + 1) i acc μ = (body acc x μ).bind fun acc' μ' => compL J body n (i + 1) acc' μ' := by
  simp only [compL, h]
theorem compL_end {J : MV} {body : List MV → MV → Mem → R (List MV)} {n i : Nat} {acc : List MV} (h : nth μ J i = some none) : compL J body (n + 1) i acc μ = .ok acc μ := by
  simp only [compL, h]
@[simp] theorem E_dic {kvs : List (Int × Int)} : evE T (.dic kvs) σ μ = .ok (.dic kvs) μ := by simp only [evE]
@[simp] theorem E_zip {a b : E} : evE T (.zip a b) σ μ = (evE T a σ μ).bind fun x μ => (evE T b σ μ).bind fun y μ => zipM μ [x, y] := by simp only [evE]
/-- all items, or the first that raises -/
theorem compX_run {elt tg it : E} {own : List Nat} {J : MV} {μ1 : Mem} {xs : List MV} (g : MV → Option MV) (X : MX) (hn : xs.length < T.n) (hz : xs.length ≤ sizeLine) (hi : evE T it σ μ = .ok J μ1) (hJ : items μ1 J = some xs)
    (hstep : ∀ x μ2, x ∈ xs → Grow [] μ1 μ2 → ∃ σ1, bindT tg x (wipeM σ own) = some σ1 ∧ ∃ μ3, Grow [] μ2 μ3 ∧ evE T elt σ1 μ2 = (match g x with
      | some v => .ok v μ3
      | none => .exc X μ3)) :
    ∃ ν, Grow [] μ1 ν ∧ evE T (.compX elt tg it (.bl true) own) σ μ = if xs.all (fun x => (g x).isSome) then .ok (.ref ν.length) (ν ++ [.lst (xs.filterMap g)]) else .exc X ν := by
  have key : ∀ (n i : Nat) (acc : List MV) (μ2 : Mem), i ≤ xs.length → xs.length - i < n → Grow [] μ1 μ2 → acc.length ≤ i →
      ∃ ν, Grow [] μ1 ν ∧ compL J (bodyW T elt tg own σ) n i acc μ2 = if (xs.drop i).all (fun x => (g x).isSome) then .ok (acc ++ (xs.drop i).filterMap g) ν else .exc X ν := by
    intro n
    induction n with
    | zero => intro i acc μ2 h1 h2; omega
    | succ n ih =>
      intro i acc μ2 h1 h2 gr hl
      have hnth := nth_items (gr.items hJ) i
      by_cases hlt : i < xs.length
      · have e : xs[i]? = some xs[i] := List.getElem?_eq_getElem hlt
        rw [e] at hnth
        obtain ⟨σ1, hb, μ3, g3, he⟩ := hstep xs[i] μ2 (List.getElem_mem hlt) gr
        have hd : xs.drop i = xs[i] :: xs.drop (i + 1) := List.drop_eq_getElem_cons hlt
        rw [hd, List.all_cons, List.filterMap_cons, compL_step hnth, bodyW_eq hb]
        cases hg : g xs[i] with
        | none =>
          rw [hg] at he
          refine ⟨μ3, gr.trans g3, ?_⟩
          simp only [he, bind_exc, Option.isSome_none, Bool.false_and, Bool.false_eq_true, if_false]
        | some v =>
          rw [hg] at he
          have hp : putL acc v μ3 = .ok (acc ++ [v]) μ3 := if_pos (by omega)
          obtain ⟨ν, g4, hr⟩ := ih (i + 1) (acc ++ [v]) μ3 hlt (by omega) (gr.trans g3) (by simp; omega)
          refine ⟨ν, g4, ?_⟩
          simp only [he, bind_ok', hp, hr, Option.isSome_some, Bool.true_and, List.append_assoc, List.singleton_append]
      · have e : xs[i]? = none := List.getElem?_eq_none (by omega)
        rw [e] at hnth
        refine ⟨μ2, gr, ?_⟩
        rw [List.drop_eq_nil_of_le (by omega), compL_end hnth]
        simp only [List.all_nil, if_true, List.filterMap_nil, List.append_nil]
  obtain ⟨ν, gr, hr⟩ := key T.n 0 [] μ1 (Nat.zero_le _) (by omega) (Grow.refl _ _) (Nat.le_refl _)
  refine ⟨ν, gr, ?_⟩
  rw [E_compX, hi]
  simp only [bind_ok', itM_items hJ, hr, List.drop_zero, List.nil_append]
  by_cases h : xs.all (fun x => (g x).isSome) = true
  · simp only [h, if_true, bind_ok']
    exact newL_ok' (Nat.le_trans (List.length_filterMap_le _ _) hz)
  · simp only [h, Bool.false_eq_true, if_false, bind_exc]
end
end Mch

/-! ## k02: what the machine's program does -/
namespace Mch.k02
open PySem Mch
noncomputable abbrev T (d : Nat) : Tab := tabD prog 100000 d
@[simp] theorem TP (d : Nat) : (T d).P = prog := by cases d <;> rfl
@[simp] theorem Tn (d : Nat) : (T d).n = 100000 := by cases d <;> rfl
theorem sl : sizeLine = 16777216 := by decide
theorem run3 (d : Nat) (args : List MV) (μ : Mem) : (T (d + 1)).call 3 args μ = runD (T d) d3 args μ := rfl
theorem run4 (d : Nat) (args : List MV) (μ : Mem) : (T (d + 1)).call 4 args μ = runD (T d) d4 args μ := rfl
theorem run6 (d : Nat) (args : List MV) (μ : Mem) : (T (d + 1)).call 6 args μ = runD (T d) d6 args μ := rfl
theorem run7 (d : Nat) (args : List MV) (μ : Mem) : (T (d + 1)).call 7 args μ = runD (T d) d7 args μ := rfl
theorem run8 (d : Nat) (args : List MV) (μ : Mem) : (T (d + 1)).call 8 args μ = runD (T d) d8 args μ := rfl
theorem run9 (d : Nat) (args : List MV) (μ : Mem) : (T (d + 1)).call 9 args μ = runD (T d) d9 args μ := rfl
theorem run10 (d : Nat) (args : List MV) (μ : Mem) : (T (d + 1)).call 10 args μ = runD (T d) d10 args μ := rfl
theorem run12 (d : Nat) (args : List MV) (μ : Mem) : (T (d + 1)).call 12 args μ = runD (T d) d12 args μ := rfl
theorem run20 (d : Nat) (args : List MV) (μ : Mem) : (T (d + 1)).call 20 args μ = runD (T d) d20 args μ := rfl
theorem run21 (d : Nat) (args : List MV) (μ : Mem) : (T (d + 1)).call 21 args μ = runD (T d) d21 args μ := rfl
theorem run22 (d : Nat) (args : List MV) (μ : Mem) : (T (d + 1)).call 22 args μ = runD (T d) d22 args μ := rfl
theorem run23 (d : Nat) (args : List MV) (μ : Mem) : (T (d + 1)).call 23 args μ = runD (T d) d23 args μ := rfl
theorem run24 (d : Nat) (args : List MV) (μ : Mem) : (T (d + 1)).call 24 args μ = runD (T d) d24 args μ := rfl
theorem run25 (d : Nat) (args : List MV) (μ : Mem) : (T (d + 1)).call 25 args μ = runD (T d) d25 args μ := rfl
theorem run26 (d : Nat) (args : List MV) (μ : Mem) : (T (d + 1)).call 26 args μ = runD (T d) d26 args μ := rfl
theorem run27 (d : Nat) (args : List MV) (μ : Mem) : (T (d + 1)).call 27 args μ = runD (T d) d27 args μ := rfl
theorem run28 (d : Nat) (args : List MV) (μ : Mem) : (T (d + 1)).call 28 args μ = runD (T d) d28 args μ := rfl
theorem run29 (d : Nat) (args : List MV) (μ : Mem) : (T (d + 1)).call 29 args μ = runD (T d) d29 args μ := rfl
theorem run30 (d : Nat) (args : List MV) (μ : Mem) : (T (d + 1)).call 30 args μ = runD (T d) d30 args μ := rfl
theorem run31 (d : Nat) (args : List MV) (μ : Mem) : (T (d + 1)).call 31 args μ = runD (T d) d31 args μ := rfl
theorem run32 (d : Nat) (args : List MV) (μ : Mem) : (T (d + 1)).call 32 args μ = runD (T d) d32 args μ := rfl
theorem run33 (d : Nat) (args : List MV) (μ : Mem) : (T (d + 1)).call 33 args μ = runD (T d) d33 args μ := rfl
theorem run34 (d : Nat) (args : List MV) (μ : Mem) : (T (d + 1)).call 34 args μ = runD (T d) d34 args μ := rfl
theorem run35 (d : Nat) (args : List MV) (μ : Mem) : (T (d + 1)).call 35 args μ = runD (T d) d35 args μ := rfl
theorem run36 (d : Nat) (args : List MV) (μ : Mem) : (T (d + 1)).call 36 args μ = runD (T d) d36 args μ := rfl
theorem run37 (d : Nat) (args : List MV) (μ : Mem) : (T (d + 1)).call 37 args μ = runD (T d) d37 args μ := rfl
theorem run38 (d : Nat) (args : List MV) (μ : Mem) : (T (d + 1)).call 38 args μ = runD (T d) d38 args μ := rfl
theorem run39 (d : Nat) (args : List MV) (μ : Mem) : (T (d + 1)).call 39 args μ = runD (T d) d39 args μ := rfl
theorem run40 (d : Nat) (args : List MV) (μ : Mem) : (T (d + 1)).call 40 args μ = runD (T d) d40 args μ := rfl
/-- is_integer -/
theorem is_integer (d : Nat) {v : MV} {μ : Mem} (h : DatM μ v) : (T (d + 1)).call 3 [v] μ = .ok (.bl (isIntM v)) μ := by
  rw [run3]
  simp only [runD, d3, fullArgs, slots]
  cases v <;> simp only [DatM] at h <;> (try obtain ⟨xs, h⟩ := h) <;> simp [tysM, tyM, isIntM, *]
/-- _law_is_whole -/
theorem law_is_whole (d : Nat) {v : MV} {μ : Mem} (h : DatM μ v) : (T (d + 1)).call 32 [v] μ = .ok (.bl (isIntM v)) μ := by
  rw [run32]
  simp only [runD, d32, fullArgs, slots]
  cases v <;> simp only [DatM] at h <;> (try obtain ⟨xs, h⟩ := h) <;> simp [tysM, tyM, isIntM, *]
/-! ### the draws -/
/-- the state of the draws stands at i -/
def St (i : Nat) (μ : Mem) : Prop := ∃ s t : Int, μ[i]? = some (.lst [.int s, .int t]) ∧ 0 ≤ s
/-- _law_take -/
theorem law_take (d : Nat) {i : Nat} {μ : Mem} {m : Int} (h : St i μ) (hm : 0 < m ∧ m < 1073741824) : ((T (d + 1)).call 30 [.ref i, .int m] μ).To fun r ν => ∃ x : Int, r = .int x ∧ 0 ≤ x ∧ x < m ∧ St i ν ∧ Grow [i] μ ν := by
  obtain ⟨s, t, h1, h2⟩ := h
  have hi : i < μ.length := (List.getElem?_eq_some_iff.mp h1).1
  have hl : lstAt μ i = some [.int s, .int t] := by unfold lstAt; rw [h1]
  have hd : divOk m = true := divOk_s (by omega) (by omega)
  have hd7 : divOk 7 = true := by decide
  have hm0 : m ≠ 0 := by omega
  have hg : ∀ c, Grow [i] μ (μ.set i c) := fun c => ⟨by simp, fun j hj hn => List.getElem?_set_ne (by simp at hn; exact fun e => hn e.symm)⟩
  have i0 : idxM μ (.ref i) (.int 0) = some (.int s) := by simp [idxM, hl, ixM]
  have i1 : idxM μ (.ref i) (.int 1) = some (.int t) := by simp [idxM, hl, ixM]
  rw [run30]
  refine runD_to rfl rfl ?_
  simp only [d30, slots]
  by_cases hs : 0 < s
  · have hset : ∀ v, setM μ (.ref i) (.int 0) v = .ok () (μ.set i (.lst [v, .int t])) := fun v => by simp [setM, h1, ixM]
    simp [i0, hs, bin_mod hm0, bin_div hd, hset]
    refine ⟨Int.fmod_nonneg_of_pos _ hm.1, Int.fmod_lt_of_pos _ hm.1, ⟨s.fdiv m, t, by rw [List.getElem?_set_self hi], ?_⟩, hg _⟩
    exact Int.fdiv_nonneg (by omega) (by omega)
  · generalize ht : (t * 48271 + 11).fmod 2147483647 = t'
    have hset : ∀ v, setM μ (.ref i) (.int 1) v = .ok () (μ.set i (.lst [.int s, v])) := fun v => by simp [setM, h1, ixM]
    have i1' : idxM (μ.set i (.lst [.int s, .int t'])) (.ref i) (.int 1) = some (.int t') := by simp [idxM, lstAt, hi, ixM]
    have hmul : mulOk t 48271 = true := mulOk_r (by decide)
    simp [i0, i1, hs, bin_mul hmul, bin_mod (show (2147483647 : Int) ≠ 0 by decide), hset, ht, i1', bin_div hd7, bin_mod hm0]
    exact ⟨Int.fmod_nonneg_of_pos _ hm.1, Int.fmod_lt_of_pos _ hm.1, ⟨s, t', by rw [List.getElem?_set_self hi], h2⟩, hg _⟩
/-- _law_state -/
theorem law_state (d : Nat) {a : Nat} {ns : List Int} {μ : Mem} (hl : ns.length ≤ 63) (h : lstAt μ a = some (ns.map MV.int)) : ((T (d + 1)).call 29 [.ref a] μ).To fun r ν => ∃ i, r = .ref i ∧ St i ν ∧ Grow [] μ ν := by
  rw [run29]
  refine runD_to rfl rfl ?_
  simp only [d29, slots]
  have hcut : cutM (ns.map MV.int) none (some 63) = ns.map MV.int := by
    unfold cutM sIxM
    simp only [List.length_map, List.drop_zero, Nat.sub_zero]
    rw [if_neg (by omega), List.take_of_length_le]
    simp
    omega
  have hsl : slcM μ (.ref a) none (some 63) = .ok (.ref μ.length) (μ ++ [.lst (ns.map MV.int)]) := by
    simp only [slcM, h, hcut]
    exact newL_ok' (by rw [sl]; simp; omega)
  simp only [List.map_cons, List.map_nil, List.length_cons, List.length_nil, Nat.reduceSub, Nat.reduceAdd, List.replicate, List.cons_append, List.nil_append, B_cons, S_asg, E_int, stm_ok', A_var, calm_ok', go_next, List.set_cons_zero, List.set_cons_succ]
  refine RS.To.go ?_
  have hit : items (μ ++ [.lst (ns.map MV.int)]) (.ref μ.length) = some (ns.map MV.int) := lstAt_new
  have h63 : partR false (R.ok (MV.int 63) μ) μ = .ok (some 63) μ := rfl
  have hno : partR true (R.ok MV.non μ) μ = .ok none μ := rfl
  simp only [S_for, E_slc, E_var0, E_non, E_int, E.isNon, bind_ok', h63, hno, hsl, stm_ok', itM_items hit]
  refine forL_to (xs := ns.map MV.int) (I := fun i σ ν => ∃ (s t : Int) (o : Option MV), σ = [some (.ref a), some (.int s), some (.int t), o] ∧ 0 ≤ s ∧ ν = μ ++ [.lst (ns.map MV.int)]) (fun i σ ν hI => ?_) (fun i x σ ν hx hI => ?_) (fun σ ν hI => ?_) _ 0 _ _ (Nat.zero_le _) (by rw [Tn]; simp; omega) ⟨0, 1, none, rfl, by omega, rfl⟩
  · obtain ⟨s, t, o, rfl, hs, rfl⟩ := hI
    exact nth_items hit i
  · obtain ⟨s, t, o, rfl, hs, rfl⟩ := hI
    rw [List.getElem?_map] at hx
    obtain ⟨z, _, rfl⟩ := Option.map_eq_some_iff.mp hx
    refine ⟨_, by simp only [T_var, List.set_cons_zero, List.set_cons_succ]; rfl, ?_⟩
    simp only [B_cons, B_nil, S_asg, E_bin, E_bi, Es_cons, Es_nil, E_int, E_var0, E_varS, bind_ok', bin_add, bi_abs, bi_int, bin_mul (mulOk_r (show (1000003 : Int).natAbs < 2 ^ 64 by decide)), bin_mul (mulOk_r (show (48271 : Int).natAbs < 2 ^ 64 by decide)), bin_mod (show (2147483647 : Int) ≠ 0 by decide), stm_ok', A_var, calm_ok', go_next, List.set_cons_zero, List.set_cons_succ, STo_ok, turnT_next]
    exact ⟨_, _, _, rfl, by omega, by trivial⟩
  · obtain ⟨s, t, o, rfl, hs, rfl⟩ := hI
    have fin : ∀ t' : Int, ((R.ok (MV.ref (μ ++ [Cell.lst (ns.map MV.int)]).length) ((μ ++ [Cell.lst (ns.map MV.int)]) ++ [Cell.lst [MV.int s, MV.int t']]) : R MV)).To fun r ν => ∃ i, r = .ref i ∧ St i ν ∧ Grow [] μ ν := fun t' =>
      ⟨_, rfl, ⟨s, t', get_new, hs⟩, (Grow.app _ _ _).trans (Grow.app _ _ _)⟩
    simp only [goT_next, B_cons, B_nil, S_ret, E_lst, E_ite, E_cmp, Es_cons, Es_nil, E_var0, E_varS, E_int, bind_ok', cmp_nei, opt_some, tru_bl]
    by_cases ht : t = 1973665155
    · simp only [ht, decide_true, Bool.not_true, Bool.false_eq_true, if_false, bind_ok', newL2, stm_ok', go_ret, STo_ok, retT_ret]
      exact fin 7
    · simp only [ht, decide_false, Bool.not_false, if_true, bind_ok', newL2, stm_ok', go_ret, STo_ok, retT_ret]
      exact fin t
/-- _law_says -/
theorem law_says (d : Nat) {b c : Bool} {μ : Mem} : (T (d + 1)).call 31 [.bl b, .bl c] μ = .ok (.bl (decide (b = c))) μ := by
  rw [run31]
  refine R.To.is (runD_to rfl rfl ?_)
  simp only [d31, slots]
  simp [tysM, tyM]
/-- _law_same of ints -/
theorem law_same_int (d : Nat) {a b : Int} {μ : Mem} : (T (d + 2)).call 33 [.int a, .int b] μ = .ok (.bl (decide (a = b))) μ := by
  rw [run33]
  refine R.To.is (runD_to rfl rfl ?_)
  simp only [d33, slots]
  simp [tysM, tyM, cmpM, law_is_whole d (v := .int a) (μ := μ) trivial, isIntM]
theorem St.grow {i : Nat} {μ ν : Mem} (h : St i μ) (g : Grow [] μ ν) : St i ν := by
  obtain ⟨s, t, h1, h2⟩ := h
  exact ⟨s, t, g.get h1 (by simp), h2⟩
theorem St.lt {i : Nat} {μ : Mem} (h : St i μ) : i < μ.length := by
  obtain ⟨s, t, h1, _⟩ := h
  exact (List.getElem?_eq_some_iff.mp h1).1
/-- a draw, as an expression -/
theorem take_to {d i j : Nat} {σ : Env} {μ : Mem} {m : Int} (hj : σ[j]? = some (some (.ref i))) (h : St i μ) (hm : 0 < m ∧ m < 1073741824) : (evE (T (d + 1)) (.call 30 [.var j, .int m]) σ μ).To fun r ν => ∃ x : Int, r = .int x ∧ 0 ≤ x ∧ x < m ∧ St i ν ∧ Grow [i] μ ν := by
  simp only [E_call, Es_cons, Es_nil, E_var hj, E_int, bind_ok']
  exact law_take d h hm
/-- a statement that goes on with σ' -/
theorem go_to {T : Tab} {s : S} {b : List S} {σ : Env} {μ : Mem} {P : Fl → Mem → Prop} (Q : Env → Mem → Prop) (h : (evS T s σ μ).To fun f ν => ∃ σ', f = .next σ' ∧ Q σ' ν) (k : ∀ σ' ν, Q σ' ν → (evB T b σ' ν).To P) : (evB T (s :: b) σ μ).To P := by
  rw [B_cons]
  refine RS.To.go (h.imp fun f ν hf => ?_)
  obtain ⟨σ', rfl, q⟩ := hf
  exact k σ' ν q
/-- the names of the loop of rows -/
def Has (σ : Env) (k : Nat) (v : MV) : Prop := σ[k]? = some (some v)
theorem Has.ne {σ : Env} {k j : Nat} {v : MV} {o : Option MV} (h : Has σ k v) (n : j ≠ k) : Has (σ.set j o) k v := by
  unfold Has
  rw [List.getElem?_set_ne n]
  exact h
theorem Has.self {σ : Env} {k : Nat} {v : MV} (h : k < σ.length) : Has (σ.set k (some v)) k v := List.getElem?_set_self h
theorem Has.ev {σ : Env} {k : Nat} {v : MV} (h : Has σ k v) (T : Tab) (μ : Mem) : evE T (.var k) σ μ = .ok v μ := E_var h
theorem make4 (d : Nat) (args : List MV) (μ : Mem) : (T (d + 1)).make 4 args μ = runI (T d) 4 2 d5 args μ := rfl
/-- common, of numbers of any size -/
theorem two_mul_mod {x y : Nat} (h : y ≤ x) (hy : 0 < y) : 2 * (x % y) < x := by
  have h1 := Nat.mod_lt x hy
  have h2 := Nat.div_add_mod x y
  have h3 : 1 ≤ x / y := (Nat.one_le_div_iff hy).mpr h
  have h4 : y ≤ y * (x / y) := Nat.le_mul_of_pos_right y h3
  omega
theorem common (d : Nat) {a b : Int} {μ : Mem} (ha : a.natAbs < 2 ^ 20000) (hb : b.natAbs < 2 ^ 20000) : (T (d + 1)).call 4 [.int a, .int b] μ = .ok (.int (Int.gcd a b : Nat)) μ := by
  rw [run4]
  refine R.To.is (runD_to rfl rfl ?_)
  simp only [d4, slots]
  simp only [List.map_cons, List.map_nil, List.length_cons, List.length_nil, Nat.sub_self, List.replicate_zero, List.append_nil, B_cons, S_asg, E_tup, Es_cons, Es_nil, E_bi, E_var0, E_varS, bind_ok', bi_abs, newT2, stm_ok', A_tup, Ag_cons, Ag_nil, A_var, if_true, calm_ok', go_next, List.set_cons_zero, List.set_cons_succ]
  refine RS.To.go ?_
  rw [S_while]
  refine whileL_to (I := fun m σ ν => ∃ x y : Nat, σ = [some (.int x), some (.int y)] ∧ ((y < 2 ^ 20000 ∧ x < 2 ^ 20000 ∧ m = 40001) ∨ (y < x ∧ x * y < 2 ^ m) ∨ (y = 0)) ∧ Nat.gcd x y = Int.gcd a b ∧ ν = μ) ?_ _ 40001 _ _ (by rw [Tn]; omega) ⟨a.natAbs, b.natAbs, rfl, .inl ⟨hb, ha, rfl⟩, rfl, rfl⟩
  rintro m σ ν ⟨x, y, rfl, hym, hg, rfl⟩
  simp only [E_cmp, E_var0, E_varS, E_int, bind_ok', cmp_gt, opt_some, tru_bl, To_ok]
  by_cases hy : 0 < y
  · have hy' : (0 : Int) < y := by omega
    rw [if_pos (by simpa using hy)]
    have hlt := Nat.mod_lt x hy
    have hstep : ∃ m', m = m' + 1 ∧ ((x % y < y ∧ y * (x % y) < 2 ^ m') ∨ x % y = 0) := by
      rcases hym with ⟨h1, h2, h3⟩ | ⟨h1, h2⟩ | h1
      · refine ⟨40000, by omega, .inl ⟨hlt, ?_⟩⟩
        have : y * (x % y) < 2 ^ 20000 * 2 ^ 20000 := Nat.mul_lt_mul'' h1 (by omega)
        rw [← Nat.pow_add] at this
        exact this
      · cases m with
        | zero =>
          exfalso
          have : 1 ≤ x * y := Nat.mul_pos (by omega) hy
          omega
        | succ m' =>
          refine ⟨m', rfl, .inl ⟨hlt, ?_⟩⟩
          have h4 := two_mul_mod (Nat.le_of_lt h1) hy
          have h5 : y * (2 * (x % y)) ≤ y * x := Nat.mul_le_mul_left y (by omega)
          rw [Nat.mul_comm y x] at h5
          rw [Nat.pow_succ] at h2
          have h6 : y * (2 * (x % y)) = 2 * (y * (x % y)) := Nat.mul_left_comm ..
          omega
      · omega
    obtain ⟨m', rfl, hm'⟩ := hstep
    refine ⟨m', rfl, ?_⟩
    have hm : (y : Int) ≠ 0 := by omega
    simp only [B_cons, B_nil, S_asg, E_tup, Es_cons, Es_nil, E_bin, E_var0, E_varS, bind_ok', bin_mod hm, newT2, stm_ok', A_tup, Ag_cons, Ag_nil, A_var, List.length_cons, List.length_nil, if_true, calm_ok', go_next, List.set_cons_zero, List.set_cons_succ, STo_ok, turnT]
    refine ⟨y, x % y, by rw [Int.ofNat_fmod], hm'.elim (fun h => .inr (.inl h)) (fun h => .inr (.inr h)), ?_, by trivial⟩
    rw [← hg, Nat.gcd_comm x y, Nat.gcd_rec y x, Nat.gcd_comm]
  · have : y = 0 := by omega
    subst this
    rw [if_neg (by simp)]
    simp only [goT_next, retT_ret, B_cons, B_nil, S_ret, E_var0, stm_ok', go_ret, STo_ok]
    rw [← hg, Nat.gcd_zero_right]
    exact ⟨rfl, by trivial⟩
end Mch.k02

/-! ## k02: Ratios as rationals -/
namespace Mch.k02
open PySem Mch
abbrev ob (n d : Int) : MV := .obj 4 [.int n, .int d]
abbrev oR (q : Rat) : MV := ob q.num (q.den : Int)
def zeroX : MX := ⟨2, [.str "zero"]⟩
def Bd (k : Nat) (q : Rat) : Prop := q.num.natAbs < 2 ^ k ∧ q.den < 2 ^ k
theorem frac_self (q : Rat) : Frac q.num q.den q.num q.den := by
  have hp : (0 : Int) < q.den := by have := q.den_pos; omega
  refine ⟨hp, ?_, 1, by decide, ?_, by omega⟩
  · exact q.reduced
  · unfold upI
    rw [if_pos hp]
theorem rat_is {a b : Int} (hb : b ≠ 0) : rN a b = (Rat.divInt a b).num ∧ rD a b = ((Rat.divInt a b).den : Int) := by
  have hd : ((Rat.divInt a b).den : Int) ≠ 0 := by have := (Rat.divInt a b).den_pos; omega
  refine ((frac_make hb).same (frac_self (Rat.divInt a b)) hb hd).mpr ?_
  have h1 := Rat.num_divInt_den (Rat.divInt a b)
  have h2 := (Rat.divInt_eq_divInt_iff hd hb).mp h1
  rw [← h2, Int.mul_comm]
theorem bd_of {a b : Int} {k : Nat} (hb : b ≠ 0) (h1 : a.natAbs < 2 ^ k) (h2 : b.natAbs < 2 ^ k) : Bd k (Rat.divInt a b) := by
  obtain ⟨e1, e2⟩ := rat_is (a := a) hb
  have := (frac_make (a := a) hb).bd hb
  rw [e1, e2] at this
  unfold Bd
  omega
theorem Bd.mono {k l : Nat} {q : Rat} (h : Bd k q) (hl : k ≤ l) : Bd l q := by
  have : 2 ^ k ≤ 2 ^ l := Nat.pow_le_pow_right (by decide) hl
  exact ⟨by have := h.1; omega, by have := h.2; omega⟩
theorem add_is (p q : Rat) : p + q = Rat.divInt (p.num * q.den + q.num * p.den) (p.den * q.den) := by
  have h1 : (p.den : Int) ≠ 0 := by have := p.den_pos; omega
  have h2 : (q.den : Int) ≠ 0 := by have := q.den_pos; omega
  rw [← Rat.divInt_add_divInt _ _ h1 h2, Rat.num_divInt_den, Rat.num_divInt_den]
theorem sub_is (p q : Rat) : p - q = Rat.divInt (p.num * q.den - q.num * p.den) (p.den * q.den) := by
  have h1 : (p.den : Int) ≠ 0 := by have := p.den_pos; omega
  have h2 : (q.den : Int) ≠ 0 := by have := q.den_pos; omega
  rw [← Rat.divInt_sub_divInt _ _ h1 h2, Rat.num_divInt_den, Rat.num_divInt_den]
theorem mul_is (p q : Rat) : p * q = Rat.divInt (p.num * q.num) (p.den * q.den) := by
  rw [← Rat.divInt_mul_divInt, Rat.num_divInt_den, Rat.num_divInt_den]
theorem neg_is (p : Rat) : -p = Rat.divInt (-p.num) p.den := by
  rw [← Rat.neg_divInt, Rat.num_divInt_den]
theorem int_is (t : Int) : (t : Rat) = Rat.divInt t 1 := by
  rw [Rat.divInt_eq_div]
  grind
theorem times_is (p : Rat) (t : Int) : p * (t : Rat) = Rat.divInt (p.num * t) p.den := by
  rw [int_is]
  have := Rat.divInt_mul_divInt p.num t (d₁ := (p.den : Int)) (d₂ := 1)
  rw [Rat.num_divInt_den, Int.mul_one] at this
  exact this
theorem over_is {p q : Rat} : p / q = Rat.divInt (p.num * q.den) (p.den * q.num) := by
  rw [Rat.div_def, ← Rat.divInt_mul_divInt, Rat.num_divInt_den, ← Rat.inv_divInt, Rat.num_divInt_den]
theorem nlt {x y k l : Nat} (h1 : x < 2 ^ k) (h2 : y < 2 ^ l) : x * y < 2 ^ (k + l) := by
  rw [Nat.pow_add]
  exact Nat.mul_lt_mul'' h1 h2
section
variable {k l : Nat} {p q : Rat}
theorem Bd.dd (hp : Bd k p) (hq : Bd l q) : ((p.den : Int) * q.den).natAbs < 2 ^ (k + l) := by
  rw [Int.natAbs_mul]
  exact nlt hp.2 hq.2
theorem Bd.nd (hp : Bd k p) (hq : Bd l q) : (p.num * (q.den : Int)).natAbs < 2 ^ (k + l) := by
  rw [Int.natAbs_mul]
  exact nlt hp.1 hq.2
theorem Bd.nn (hp : Bd k p) (hq : Bd l q) : (p.num * q.num).natAbs < 2 ^ (k + l) := by
  rw [Int.natAbs_mul]
  exact nlt hp.1 hq.1
theorem Bd.dn (hp : Bd k p) (hq : Bd l q) : ((p.den : Int) * q.num).natAbs < 2 ^ (k + l) := by
  rw [Int.natAbs_mul]
  exact nlt hp.2 hq.1
theorem dz (p q : Rat) : ((p.den : Int) * q.den) ≠ 0 := by
  have h1 := p.den_pos
  have h2 := q.den_pos
  exact Int.mul_ne_zero (by omega) (by omega)
theorem Bd.cross (hp : Bd k p) (hq : Bd l q) : (p.num * q.den + q.num * p.den).natAbs < 2 ^ (k + l + 1) ∧ (p.num * q.den - q.num * p.den).natAbs < 2 ^ (k + l + 1) := by
  have h1 := hp.nd hq
  have h2 := hq.nd hp
  rw [Nat.add_comm l k] at h2
  rw [Nat.pow_succ]
  omega
theorem pow1 (n : Nat) : 2 ^ n ≤ 2 ^ (n + 1) := Nat.pow_le_pow_right (by decide) (by omega)
theorem Bd.add (hp : Bd k p) (hq : Bd l q) : Bd (k + l + 1) (p + q) := by
  rw [add_is]
  exact bd_of (dz p q) (hp.cross hq).1 (Nat.lt_of_lt_of_le (hp.dd hq) (pow1 _))
theorem Bd.sub (hp : Bd k p) (hq : Bd l q) : Bd (k + l + 1) (p - q) := by
  rw [sub_is]
  exact bd_of (dz p q) (hp.cross hq).2 (Nat.lt_of_lt_of_le (hp.dd hq) (pow1 _))
theorem Bd.mul (hp : Bd k p) (hq : Bd l q) : Bd (k + l) (p * q) := by
  rw [mul_is]
  exact bd_of (dz p q) (hp.nn hq) (hp.dd hq)
theorem Bd.neg (hp : Bd k p) : Bd k (-p) := by
  rw [neg_is]
  exact bd_of (by have := p.den_pos; omega) (by have := hp.1; omega) (by have := hp.2; omega)
theorem Bd.times (hp : Bd k p) {t : Int} (ht : t.natAbs < 2 ^ l) : Bd (k + l) (p * (t : Rat)) := by
  rw [times_is]
  refine bd_of (by have := p.den_pos; omega) ?_ ?_
  · rw [Int.natAbs_mul]
    exact nlt hp.1 ht
  · have := Nat.pow_le_pow_right (n := 2) (by decide) (Nat.le_add_right k l)
    have := hp.2
    omega
theorem Bd.over (hp : Bd k p) (hq : Bd l q) (h0 : q ≠ 0) : Bd (k + l) (p / q) := by
  rw [over_is]
  have h1 : q.num ≠ 0 := fun z => h0 (Rat.num_eq_zero.mp z)
  exact bd_of (Int.mul_ne_zero (by have := p.den_pos; omega) h1) (hp.nd hq) (hp.dn hq)
end
/-! ### the machine -/
theorem log_lt {n k : Nat} (h : n < 2 ^ k) (hk : 0 < k) : n.log2 < k := by
  by_cases h0 : n = 0
  · subst h0
    exact hk
  · exact (Nat.log2_lt h0).mpr h
theorem mulOk_b {i j : Int} (hi : i.natAbs < 2 ^ 8000) (hj : j.natAbs < 2 ^ 8000) : mulOk i j = true := by
  unfold mulOk
  have h1 := log_lt hi (by decide)
  have h2 := log_lt hj (by decide)
  have : i.natAbs.log2 + j.natAbs.log2 < 1000000 := by omega
  simp [this]
theorem divOk_b {j : Int} (h0 : 0 < j) (hj : j.natAbs < 2 ^ 8000) : divOk j = true := by
  unfold divOk
  have h2 := log_lt hj (by decide)
  have : j.natAbs.log2 < 9000 := by omega
  simp [this, h0]
  omega
theorem cl4 (d : Nat) : (T d).P.clss[4]? = some (clss.getD 4 { fields := [], init := none, meths := [] }) := by rw [TP]; rfl
theorem mk_rat (k : Nat) {a b : Int} {μ : Mem} (hb : b ≠ 0) (h1 : a.natAbs < 2 ^ 8000) (h2 : b.natAbs < 2 ^ 8000) : (T (k + 2)).make 4 [.int a, .int b] μ = .ok (oR (Rat.divInt a b)) μ := by
  obtain ⟨r1, r2⟩ := rat_is (a := a) hb
  unfold oR
  rw [← r1, ← r2]
  have hg : 0 < Int.gcd a b := Int.gcd_pos_of_ne_zero_right _ hb
  have hgl : Int.gcd a b ≤ b.natAbs := Int.gcd_le_natAbs_right (b := b) a hb
  have hd : divOk (Int.gcd a b : Nat) = true := divOk_b (by omega) (by rw [Int.natAbs_natCast]; omega)
  rw [make4]
  have e1 := is_integer k (v := .int a) (μ := μ) trivial
  have e2 := is_integer k (v := .int b) (μ := μ) trivial
  have hp8 : (2 : Nat) ^ 8000 ≤ 2 ^ 20000 := Nat.pow_le_pow_right (by decide) (by decide)
  have e3 := common k (a := a) (b := b) (μ := μ) (Nat.lt_of_lt_of_le h1 hp8) (Nat.lt_of_lt_of_le h2 hp8)
  have b1 : evB (T (k + 1)) d5.body [some (.obj 4 []), some (.int a), some (.int b), none] μ = .ok (.next [some (ob (rN a b) (rD a b)), some (.int a), some (.int b), some (.int (Int.gcd a b : Nat))]) μ := by
    have f1 : evS (T (k + 1)) (.setf "n" (.ite (.ocmp .Gt (.var 2) (.int 0)) (.obin .FloorDiv (.var 1) (.var 3)) (.obin .FloorDiv (.oneg (.var 1)) (.var 3)))) [some (.obj 4 []), some (.int a), some (.int b), some (.int (Int.gcd a b : Nat))] μ = .ok (.next [some (.obj 4 [.int (rN a b)]), some (.int a), some (.int b), some (.int (Int.gcd a b : Nat))]) μ := by
      refine S_setf (v := .int (rN a b)) (vs := []) ?_ rfl (cl4 _) rfl
      unfold rN
      by_cases hp : 0 < b <;> simp [hp, bin_div hd]
    have f2 : evS (T (k + 1)) (.setf "d" (.obin .FloorDiv (.bi .abs [(.var 2)]) (.var 3))) [some (.obj 4 [.int (rN a b)]), some (.int a), some (.int b), some (.int (Int.gcd a b : Nat))] μ = .ok (.next [some (ob (rN a b) (rD a b)), some (.int a), some (.int b), some (.int (Int.gcd a b : Nat))]) μ := by
      refine S_setf (v := .int (rD a b)) (vs := [.int (rN a b)]) ?_ rfl (cl4 _) rfl
      unfold rD
      simp [bin_div hd]
    simp only [d5, B_cons, S_ite, E_or, E_not, E_call, Es_cons, Es_nil, E_var0, E_varS, bind_ok', e1, e2, isIntM, tru_bl, Bool.not_true, Bool.false_eq_true, if_false, stm_ok', B_nil, go_next, E_ocmp, E_int, cmpT_int, cmp_eqi, hb, decide_false, opt_some, S_asg, e3, A_var, calm_ok', List.set_cons_zero, List.set_cons_succ, f1, f2]
  simp only [runI, fullArgs]
  have e4 : slots d5 ([MV.obj 4 [], .int a, .int b] ++ List.drop (d5.dfl.length - (d5.np - [MV.obj 4 [], .int a, .int b].length)) d5.dfl) = [some (.obj 4 []), some (.int a), some (.int b), none] := rfl
  rw [e4, b1]
  rfl
theorem mk_int (k : Nat) {a : Int} {μ : Mem} (h1 : a.natAbs < 2 ^ 8000) : (T (k + 2)).make 4 [.int a] μ = .ok (oR (a : Rat)) μ := by
  rw [int_is]
  have : (1 : Int).natAbs < 2 ^ 8000 := Nat.one_lt_two_pow (by decide)
  exact mk_rat k (b := 1) (by decide) h1 this
section
variable {μ : Mem} {p q : Rat} {v : MV} {k l j : Nat}
@[simp] theorem fld_n {n d : Int} : fldM prog "n" (ob n d) μ = .ok (.int n) μ := Eq.trans rfl rfl
@[simp] theorem fld_d {n d : Int} : fldM prog "d" (ob n d) μ = .ok (.int d) μ := Eq.trans rfl rfl
theorem ty_rat {n d : Int} : tysM prog μ (ob n d) [.cls 4] = some true := Eq.trans rfl rfl
theorem ty_nrat (h : DatM μ v) : tysM prog μ v [.cls 4] = some false := by
  cases v <;> simp only [DatM] at h <;> simp [tysM, tyM]
  obtain ⟨xs, h⟩ := h
  rw [h]
  rfl
theorem check_ok (k : Nat) {n d : Int} : (T (k + 1)).call 20 [ob n d] μ = .ok .non μ := by
  rw [run20]
  refine R.To.is (runD_to rfl rfl ?_)
  simp only [d20, slots]
  simp [ty_rat]
  exact ⟨rfl, rfl⟩
theorem check_bad (k : Nat) (h : DatM μ v) : (T (k + 1)).call 20 [v] μ = .exc ⟨1, []⟩ μ := by
  rw [run20]
  have f1 : evS (T k) (.raise 1 [(.str "a Ratio")]) [some v] μ = .exc ⟨1, []⟩ [some v] μ := S_raise (xs := [.str "a Ratio"]) (by simp) (by rw [TP]; rfl)
  simp only [runD, d20, fullArgs, slots]
  simp [ty_nrat h, f1]
theorem p8 {k : Nat} {n : Nat} (h : n < 2 ^ k) (hk : k ≤ 8000) : n < 2 ^ 8000 := Nat.lt_of_lt_of_le h (Nat.pow_le_pow_right (by decide) hk)
theorem add_ok (j : Nat) (hp : Bd k p) (hq : Bd l q) (h : k + l + 1 ≤ 8000) : (T (j + 3)).call 6 [oR p, oR q] μ = .ok (oR (p + q)) μ := by
  rw [run6]
  refine R.To.is (runD_to rfl rfl ?_)
  simp only [d6, slots]
  have m1 : mulOk p.num (q.den : Int) = true := mulOk_b (p8 hp.1 (by omega)) (p8 hq.2 (by omega))
  have m2 : mulOk q.num (p.den : Int) = true := mulOk_b (p8 hq.1 (by omega)) (p8 hp.2 (by omega))
  have m3 : mulOk (p.den : Int) (q.den : Int) = true := mulOk_b (p8 hp.2 (by omega)) (p8 hq.2 (by omega))
  have hm := mk_rat j (μ := μ) (dz p q) (p8 (hp.cross hq).1 (by omega)) (p8 (hp.dd hq) (by omega))
  simp [check_ok, bin_mul m1, bin_mul m2, bin_mul m3, hm, add_is]
theorem sub_ok (j : Nat) (hp : Bd k p) (hq : Bd l q) (h : k + l + 1 ≤ 8000) : (T (j + 3)).call 7 [oR p, oR q] μ = .ok (oR (p - q)) μ := by
  rw [run7]
  refine R.To.is (runD_to rfl rfl ?_)
  simp only [d7, slots]
  have m1 : mulOk p.num (q.den : Int) = true := mulOk_b (p8 hp.1 (by omega)) (p8 hq.2 (by omega))
  have m2 : mulOk q.num (p.den : Int) = true := mulOk_b (p8 hq.1 (by omega)) (p8 hp.2 (by omega))
  have m3 : mulOk (p.den : Int) (q.den : Int) = true := mulOk_b (p8 hp.2 (by omega)) (p8 hq.2 (by omega))
  have hm := mk_rat j (μ := μ) (dz p q) (p8 (hp.cross hq).2 (by omega)) (p8 (hp.dd hq) (by omega))
  simp [check_ok, bin_mul m1, bin_mul m2, bin_mul m3, hm, sub_is]
theorem mul_ok (j : Nat) (hp : Bd k p) (hq : Bd l q) (h : k + l ≤ 8000) : (T (j + 3)).call 8 [oR p, oR q] μ = .ok (oR (p * q)) μ := by
  rw [run8]
  refine R.To.is (runD_to rfl rfl ?_)
  simp only [d8, slots]
  have m1 : mulOk p.num q.num = true := mulOk_b (p8 hp.1 (by omega)) (p8 hq.1 (by omega))
  have m3 : mulOk (p.den : Int) (q.den : Int) = true := mulOk_b (p8 hp.2 (by omega)) (p8 hq.2 (by omega))
  have hm := mk_rat j (μ := μ) (dz p q) (p8 (hp.nn hq) (by omega)) (p8 (hp.dd hq) (by omega))
  simp [check_ok, bin_mul m1, bin_mul m3, hm, mul_is]
theorem neg_ok (j : Nat) (hp : Bd k p) (h : k ≤ 8000) : (T (j + 3)).call 9 [oR p] μ = .ok (oR (-p)) μ := by
  rw [run9]
  refine R.To.is (runD_to rfl rfl ?_)
  simp only [d9, slots]
  have hm := mk_rat j (a := -p.num) (b := p.den) (μ := μ) (by have := p.den_pos; omega) (by rw [Int.natAbs_neg]; exact p8 hp.1 h) (p8 hp.2 h)
  simp [hm, neg_is]
theorem eqR_iff : (decide (p.num = q.num) && decide ((p.den : Int) = q.den)) = decide (p = q) := by
  rw [← Bool.decide_and]
  refine decide_eq_decide.mpr ⟨fun h => Rat.ext h.1 (by have := h.2; omega), ?_⟩
  rintro rfl
  exact ⟨rfl, rfl⟩
theorem eq_ok (j : Nat) : (T (j + 1)).call 10 [oR p, oR q] μ = .ok (.bl (decide (p = q))) μ := by
  rw [run10, ← eqR_iff]
  refine R.To.is (runD_to rfl rfl ?_)
  simp only [d10, slots]
  simp [ty_rat]
  by_cases h : p.num = q.num <;> simp [h]
end
end Mch.k02

/-! ## k02: expressions of Ratios, texts -/
namespace Mch.k02
open PySem PySem.Builtin PySem.Builtin.Str Mch
theorem me4_add : methOf prog 4 (opName .Add) = some 6 := by decide +kernel
theorem me4_mul : methOf prog 4 (opName .Mult) = some 8 := by decide +kernel
theorem me4_neg : methOf prog 4 "__neg__" = some 9 := by decide +kernel
theorem me4_eq : methOf prog 4 "__eq__" = some 10 := by decide +kernel
theorem me4_str : methOf prog 4 "__str__" = some 12 := by decide +kernel
theorem meT {k : Nat} {c : Nat} {s : Str} {o : Option Nat} (h : methOf prog c s = o) : methOf (T k).P c s = o := by rw [TP]; exact h
section
variable {σ : Env} {μ : Mem} {p q : Rat} {A B : E} {k l j : Nat} {t : Int}
theorem e_add (hA : evE (T (j + 3)) A σ μ = .ok (oR p) μ) (hB : evE (T (j + 3)) B σ μ = .ok (oR q) μ) (hp : Bd k p) (hq : Bd l q) (h : k + l + 1 ≤ 8000) : evE (T (j + 3)) (.obin .Add A B) σ μ = .ok (oR (p + q)) μ := by
  simp only [E_obin, hA, hB, bind_ok']
  rw [binT_obj (meT me4_add) rfl]
  exact add_ok j hp hq h
theorem e_mul (hA : evE (T (j + 3)) A σ μ = .ok (oR p) μ) (hB : evE (T (j + 3)) B σ μ = .ok (oR q) μ) (hp : Bd k p) (hq : Bd l q) (h : k + l ≤ 8000) : evE (T (j + 3)) (.obin .Mult A B) σ μ = .ok (oR (p * q)) μ := by
  simp only [E_obin, hA, hB, bind_ok']
  rw [binT_obj (meT me4_mul) rfl]
  exact mul_ok j hp hq h
theorem e_neg (hA : evE (T (j + 3)) A σ μ = .ok (oR p) μ) (hp : Bd k p) (h : k ≤ 8000) : evE (T (j + 3)) (.oneg A) σ μ = .ok (oR (-p)) μ := by
  simp only [E_oneg, hA, bind_ok']
  rw [negT_obj (meT me4_neg)]
  exact neg_ok j hp h
end
/-! ### texts -/
theorem ok_str (s : String) : PyData.strOk (Str.ofString s) = true := by
  unfold PyData.strOk
  rw [Str.ofString_eq_toList]
  simp only [List.all_toArray, List.all_map, List.all_eq_true]
  intro c _
  have := c.valid
  simp only [Function.comp]
  refine decide_eq_true ?_
  show c.val.toNat < 1114112
  rcases this with h | h
  · have : c.val.toNat < 55296 := h
    omega
  · exact h.2
theorem ok_append {a b : Str} (ha : PyData.strOk a = true) (hb : PyData.strOk b = true) : PyData.strOk (a ++ b) = true := by
  show (a.cps ++ b.cps).all (· < 0x110000) = true
  rw [Array.all_append]
  exact Bool.and_eq_true_iff.mpr ⟨ha, hb⟩
theorem emp_app (a : Str) : Str.empty ++ a = a := by
  show (⟨#[] ++ a.cps⟩ : Str) = a
  rw [Array.empty_append]
theorem app_len (a b : Str) : (a ++ b).length = a.length + b.length := by
  show (a.cps ++ b.cps).size = _
  rw [Array.size_append]
  rfl
abbrev tx (n : Int) : Str := Str.ofString n.repr
theorem tx_len {n : Int} (h : n.natAbs.log2 < 1920) : (tx n).length ≤ 1921 := PyProof.Rows.int_text_len_1921 h
theorem slash_len : ("/" : Str).length = 1 := by decide +kernel
def rTxt (p : Rat) : Str := if (p.den : Int) = 1 then tx p.num else (tx p.num ++ ("/" : Str)) ++ tx p.den
section
variable {μ : Mem} {a b c e p : Rat} {d f : Int} {v : MV} {k l j : Nat}
theorem bd_log (h : Bd 1900 p) : p.num.natAbs.log2 < 1920 ∧ (p.den : Int).natAbs.log2 < 1920 := by
  have h1 := log_lt h.1 (by decide)
  have h2 := log_lt h.2 (by decide)
  rw [Int.natAbs_natCast]
  omega
theorem rTxt_len (h : Bd 1900 p) : (rTxt p).length ≤ 4000 := by
  obtain ⟨l1, l2⟩ := bd_log h
  have n1 := tx_len l1
  have n2 := tx_len l2
  unfold rTxt
  split
  · omega
  · rw [app_len, app_len, slash_len]
    omega
theorem rTxt_ok (p : Rat) : PyData.strOk (rTxt p) = true := by
  unfold rTxt
  split
  · exact ok_str _
  · exact ok_append (ok_append (ok_str _) (by decide +kernel)) (ok_str _)
theorem str_ok (j : Nat) (h : Bd 1900 p) : (T (j + 1)).call 12 [oR p] μ = .ok (.str (rTxt p)) μ := by
  obtain ⟨l1, l2⟩ := bd_log h
  have n1 := tx_len l1
  have n2 := tx_len l2
  rw [run12]
  refine R.To.is (runD_to rfl rfl ?_)
  simp only [d12, slots]
  have hf : evF (T j) [(.fmt (.fld (.var 0) "n")), (.str "/"), (.fmt (.fld (.var 0) "d"))] Str.empty [some (oR p)] μ = .ok ((tx p.num ++ ("/" : Str)) ++ tx p.den) μ := by
    rw [F_cons (y := tx p.num) (ν := μ) (by simp [fmt_int l1]) (by rw [emp_app, sl]; omega)]
    rw [F_cons (y := "/") (ν := μ) (by simp) (by rw [emp_app, app_len, slash_len, sl]; omega)]
    rw [F_cons (y := tx p.den) (ν := μ) (by simp [fmt_int l2]) (by rw [emp_app, app_len, app_len, slash_len, sl]; omega)]
    rw [emp_app]
    simp only [F_nil]
  have s1 : biM μ .str [.int p.num] = .ok (.str (tx p.num)) μ := small_int (n := 0) l1
  unfold rTxt
  by_cases h1 : (p.den : Int) = 1
  · simp only [List.map_cons, List.map_nil, List.length_cons, List.length_nil, Nat.sub_self, List.replicate_zero, List.append_nil, B_cons, B_nil, S_ite, E_ocmp, E_fld, E_var0, bind_ok', TP, fld_d, fld_n, E_int, cmpT_int, cmp_eqi, h1, decide_true, opt_some, tru_bl, stm_ok', if_true, S_ret, E_ostr, strT_int, s1, go_ret, STo_ok, retT_ret]
    exact ⟨by trivial, by trivial⟩
  · simp only [List.map_cons, List.map_nil, List.length_cons, List.length_nil, Nat.sub_self, List.replicate_zero, List.append_nil, B_cons, B_nil, S_ite, E_ocmp, E_fld, E_var0, bind_ok', TP, fld_d, fld_n, E_int, cmpT_int, cmp_eqi, h1, decide_false, opt_some, tru_bl, stm_ok', Bool.false_eq_true, if_false, go_next, S_ret, E_fstr, hf, go_ret, STo_ok, retT_ret]
    exact ⟨by trivial, by trivial⟩
theorem strR {J : Nat} (h : Bd 1900 p) : strT (T (J + 1)) μ (oR p) = .ok (.str (rTxt p)) μ := strT_obj (meT me4_str) (str_ok J h)
end
end Mch.k02

/-! ## k02: texts, plainly -/
namespace Mch.k02
open PySem L2 TL Mch
def st (l : List Nat) : Str := ⟨l.toArray⟩
def sOk (p : Str) : Bool := PyData.strOk p
def digs (p : Str) : Bool := (tl p).all fun c => decide (48 ≤ c) && decide (c ≤ 57)
def num (p : Str) : Bool := !(decide (p = "")) && digs p
def lwT (sp lp : Str) : Str := if sp = "/" then lp else "1"
def rd3 (p tp sp lw : Str) : Option (Option Rat) :=
  if !(decide (tp.length ≤ 640) && (decide (lw.length ≤ 640) && (sOk p && (sOk tp && (sOk sp && sOk lw))))) then none else
  if !(num tp) then some none else
  if !(num lw) then some none else
  match intText? tp, intText? lw with
  | some a, some b => if a.natAbs < 2 ^ 30 ∧ b.natAbs < 2 ^ 30 then
      (if sp = "/" ∧ b = 0 then some none else if b = 0 then none else
        if rTxt (if Txt.startswith p "-" then -(Rat.divInt a b) else Rat.divInt a b) = p then some (some (if Txt.startswith p "-" then -(Rat.divInt a b) else Rat.divInt a b)) else some none)
    else none
  | _, _ => none
/-- read_ratio: none where it sticks -/
def rd (p : Str) : Option (Option Rat) :=
  if 400 < p.length then some none else
  if (Txt.removeprefix p "-").length ≤ 640 then rd3 p (Txt.partition (Txt.removeprefix p "-") "/").1 (Txt.partition (Txt.removeprefix p "-") "/").2.1 (lwT (Txt.partition (Txt.removeprefix p "-") "/").2.1 (Txt.partition (Txt.removeprefix p "-") "/").2.2) else none
def ownT (p : Str) : Str := if st ((tl p).take 1) = "-" then st ((tl p).drop 1) else p
def cutT (p : Str) : List Str := (spl [47] 0 [] (tl (ownT p))).map st
def badP (w : Str) : Bool := decide (w = "") || !((tl w).all fun c => decide (c ∈ tl ("0123456789" : Str)))
def zeroP (w : Str) : Bool := decide (1 < w.length) && decide ((tl w)[0]? = some 48)
/-- _law_is_text -/
def isT (p : Str) : Option Bool :=
  if !(sOk p && (sOk (st ((tl p).take 1)) && (sOk (st ((tl p).take 2)) && (sOk (ownT p) && (cutT p).all sOk)))) then none else
  if 400 < p.length then some false else
  if 2 < (cutT p).length then some false else
  if (cutT p).any badP then some false else
  if (cutT p).any zeroP then some false else
  if st ((tl p).take 2) = "-0" then some false else
  match cutT p with
  | [_] => some true
  | [x, y] => (match intText? x, intText? y with
    | some a, some b => if x.length ≤ 640 ∧ y.length ≤ 640 then (if b ≤ 1 then some false else if 0 ≤ a ∧ a < 2 ^ 30 ∧ b < 90000 then some (decide (Int.gcd a b = 1)) else none) else none
    | _, _ => none)
  | _ => none
/-- both say the same -/
def chk (p : Str) : Bool := decide (p.length ≤ 1000) && match isT p, rd p with
  | some true, some (some q) => decide (rTxt q = p) && (decide (q.num.natAbs < 2 ^ 30) && decide (q.den < 2 ^ 30))
  | some false, some none => true
  | _, _ => false
def owns : List Str := (List.range 13).flatMap fun (y : Nat) => (List.range 3).map fun (z : Nat) => rTxt (Rat.divInt ((y : Int) - 6) (1 + (z : Int)))
def marks : List Nat := tl ("019-/,. x" : Str)
def insT (own : Str) (i : Nat) (m : Nat) : Str := (st ((tl own).take i) ++ st [m]) ++ st ((tl own).drop i)
def delT (own : Str) (i : Nat) : Str := st ((tl own).take i) ++ st ((tl own).drop (i + 1))
def bents (own : Str) : List Str := ((List.range (own.length + 1)).flatMap fun i => delT own i :: marks.map fun m => insT own i m) ++
  [own, ("0" : Str) ++ own, own ++ ("/1" : Str), ("-" : Str) ++ own]
def parts (p : Str) : List Str := (spl [44] 0 [] (tl p)).map st
def fixed : List Str := ["2/4", "1/0", "", "-", "0/5"]
def both (b : Str) : Bool := chk b && (parts b).all chk
def ok1 (own : Str) : Bool := decide (own.length ≤ 5) && (!(decide (own = "")) && (!(decide (44 ∈ tl own)) && (bents own).all both))
theorem owns_are : owns = [("-6" : Str), ("-3" : Str), ("-2" : Str), ("-5" : Str), ("-5/2" : Str), ("-5/3" : Str), ("-4" : Str), ("-2" : Str), ("-4/3" : Str), ("-3" : Str), ("-3/2" : Str), ("-1" : Str), ("-2" : Str), ("-1" : Str), ("-2/3" : Str), ("-1" : Str), ("-1/2" : Str), ("-1/3" : Str), ("0" : Str), ("0" : Str), ("0" : Str), ("1" : Str), ("1/2" : Str), ("1/3" : Str), ("2" : Str), ("1" : Str), ("2/3" : Str), ("3" : Str), ("3/2" : Str), ("1" : Str), ("4" : Str), ("2" : Str), ("4/3" : Str), ("5" : Str), ("5/2" : Str), ("5/3" : Str), ("6" : Str), ("3" : Str), ("2" : Str)] := by decide +kernel
theorem ok_0 : ok1 "-6" = true := by decide +kernel
theorem ok_1 : ok1 "-3" = true := by decide +kernel
theorem ok_2 : ok1 "-2" = true := by decide +kernel
theorem ok_3 : ok1 "-5" = true := by decide +kernel
theorem ok_4 : ok1 "-5/2" = true := by decide +kernel
theorem ok_5 : ok1 "-5/3" = true := by decide +kernel
theorem ok_6 : ok1 "-4" = true := by decide +kernel
theorem ok_7 : ok1 "-4/3" = true := by decide +kernel
theorem ok_8 : ok1 "-3/2" = true := by decide +kernel
theorem ok_9 : ok1 "-1" = true := by decide +kernel
theorem ok_10 : ok1 "-2/3" = true := by decide +kernel
theorem ok_11 : ok1 "-1/2" = true := by decide +kernel
theorem ok_12 : ok1 "-1/3" = true := by decide +kernel
theorem ok_13 : ok1 "0" = true := by decide +kernel
theorem ok_14 : ok1 "1" = true := by decide +kernel
theorem ok_15 : ok1 "1/2" = true := by decide +kernel
theorem ok_16 : ok1 "1/3" = true := by decide +kernel
theorem ok_17 : ok1 "2" = true := by decide +kernel
theorem ok_18 : ok1 "2/3" = true := by decide +kernel
theorem ok_19 : ok1 "3" = true := by decide +kernel
theorem ok_20 : ok1 "3/2" = true := by decide +kernel
theorem ok_21 : ok1 "4" = true := by decide +kernel
theorem ok_22 : ok1 "4/3" = true := by decide +kernel
theorem ok_23 : ok1 "5" = true := by decide +kernel
theorem ok_24 : ok1 "5/2" = true := by decide +kernel
theorem ok_25 : ok1 "5/3" = true := by decide +kernel
theorem ok_26 : ok1 "6" = true := by decide +kernel
theorem chk_all : (owns.all ok1) = true := by
  rw [owns_are]
  simp only [List.all_cons, List.all_nil, Bool.and_true, ok_0, ok_1, ok_2, ok_3, ok_4, ok_5, ok_6, ok_7, ok_8, ok_9, ok_10, ok_11, ok_12, ok_13, ok_14, ok_15, ok_16, ok_17, ok_18, ok_19, ok_20, ok_21, ok_22, ok_23, ok_24, ok_25, ok_26]
theorem chk_fix : fixed.all both = true := by decide +kernel
end Mch.k02

/-! ## k02: what the machine does with texts -/
namespace Mch.k02
open PySem L2 TL Mch
theorem law_common (d : Nat) {a b : Int} {μ : Mem} (hb : b.natAbs < 99990) : (T (d + 1)).call 34 [.int a, .int b] μ = .ok (.int (Int.gcd a b : Nat)) μ := by
  rw [run34]
  refine R.To.is (runD_to rfl rfl ?_)
  simp only [d34, slots]
  simp only [List.map_cons, List.map_nil, List.length_cons, List.length_nil, Nat.sub_self, List.replicate_zero, List.append_nil, B_cons]
  refine RS.To.go ?_
  rw [S_while]
  refine whileL_to (I := fun m σ ν => ∃ x y : Int, σ = [some (.int x), some (.int y)] ∧ y.natAbs ≤ m ∧ Int.gcd x y = Int.gcd a b ∧ ν = μ) ?_ _ b.natAbs _ _ (by rw [Tn]; omega) ⟨a, b, rfl, Nat.le_refl _, rfl, rfl⟩
  rintro m σ ν ⟨x, y, rfl, hym, hg, rfl⟩
  simp only [E_cmp, E_var0, E_varS, E_int, bind_ok', cmp_nei, opt_some, tru_bl, To_ok]
  by_cases hy : y = 0
  · subst hy
    rw [if_neg (by simp)]
    simp only [goT_next, retT_ret, B_cons, B_nil, S_ret, E_bi, Es_cons, Es_nil, bind_ok', bi_abs, E_var0, stm_ok', go_ret, STo_ok]
    rw [← hg, Int.gcd_zero]
    exact ⟨rfl, by trivial⟩
  · rw [if_pos (by simpa using hy)]
    refine ⟨m - 1, by omega, ?_⟩
    simp only [B_cons, B_nil, S_asg, E_tup, Es_cons, Es_nil, E_bin, E_bi, E_var0, E_varS, bind_ok', bi_int, bin_mod hy, newT2, stm_ok', A_tup, Ag_cons, Ag_nil, A_var, List.length_cons, List.length_nil, if_true, calm_ok', go_next, List.set_cons_zero, List.set_cons_succ, STo_ok, turnT]
    refine ⟨y, x.fmod y, rfl, ?_, ?_, by trivial⟩
    · have := fmod_lt' x hy
      omega
    · rw [gcd_fmod, hg]
section
variable {σ : Env} {ν μ : Mem} {j : Nat}
def pS (P : Str → Bool) : MV → Bool
  | .str w => P w
  | _ => false
theorem any_texts {elt it : E} {v m : Nat} {ws : List Str} {P : Str → Bool} (hn : ws.length ≤ 1000) (hi : evE (T j) it σ ν = .ok (.ref m) ν) (hl : lstAt ν m = some (ws.map .str))
    (h : ∀ w ∈ ws, ∀ ν1, Grow [] ν ν1 → ∃ ν2, Grow [] ν1 ν2 ∧ evE (T j) elt (σ.set v (some (.str w))) ν1 = .ok (.bl (P w)) ν2) :
    ∃ ν2, Grow [] ν ν2 ∧ evE (T j) (.bi .any [.comp elt (.var v) it (.bl true) [v]]) σ ν = .ok (.bl (ws.any P)) ν2 := by
  have hc : (evE (T j) (.comp elt (.var v) it (.bl true) [v]) σ ν).To fun r ν2 => ∃ ν1, Grow [] ν ν1 ∧ r = .ref ν1.length ∧ ν2 = ν1 ++ [.lst ((ws.map MV.str).map fun x => .bl (pS P x))] := by
    refine comp_to (J := .ref m) (xs := ws.map .str) (fun x => some (.bl (pS P x))) (by rw [Tn]; simp; omega) (by rw [sl]; simp; omega) hi hl (fun x μ2 hm gr => ?_) fun μ2 gr => ?_
    · obtain ⟨w, hw, rfl⟩ := List.mem_map.mp hm
      refine ⟨_, by simp only [T_var]; rfl, ?_⟩
      simp only [wipe_cons, wipe_nil, List.set_set]
      obtain ⟨ν2, g2, he⟩ := h w hw μ2 gr
      unfold turnE
      simp only [E_bl, bind_ok', tru_bl, if_true, he, To_ok]
      exact ⟨by trivial, g2⟩
    · refine ⟨μ2, gr, rfl, ?_⟩
      rw [fm_some]
  obtain ⟨r, ν2, he, ν1, g1, rfl, rfl⟩ := hc.eq
  refine ⟨ν1 ++ [.lst ((ws.map MV.str).map fun x => .bl (pS P x))], g1.trans (Grow.app _ _ _), ?_⟩
  rw [E_bi]
  simp only [Es_cons, Es_nil, he, bind_ok']
  rw [any_new (p := pS P), List.any_map]
  rfl
theorem all_signs {elt it : E} {v : Nat} {w : Str} {P : Nat → Bool} (hn : w.length ≤ 1000) (hi : evE (T j) it σ ν = .ok (.str w) ν) (h : ∀ c ∈ tl w, evE (T j) elt (σ.set v (some (.str (st [c])))) ν = .ok (.bl (P c)) ν) :
    ∃ ν2, Grow [] ν ν2 ∧ evE (T j) (.bi .all [.comp elt (.var v) it (.bl true) [v]]) σ ν = .ok (.bl ((tl w).all P)) ν2 := by
  have hlen : (tl w).length ≤ 1000 := by rw [← len_tl]; exact hn
  have hit : items ν (.str w) = some ((tl w).map fun c => .str (st [c])) := by
    simp only [items]
    rw [if_pos (by rw [sl]; omega)]
    rfl
  have hc : evE (T j) (.comp elt (.var v) it (.bl true) [v]) σ ν = .ok (.ref ν.length) (ν ++ [.lst (((tl w).map fun c => MV.str (st [c])).map fun x => .bl (pS (fun z => (tl z).all P) x))]) := by
    rw [← fm_some]
    refine comp_pure (J := .str w) (xs := (tl w).map fun c => .str (st [c])) _ (by rw [Tn, List.length_map]; omega) (by rw [sl, List.length_map]; omega) hi hit fun x hm => ?_
    obtain ⟨c, hc, rfl⟩ := List.mem_map.mp hm
    refine ⟨_, by simp only [T_var]; rfl, ?_⟩
    simp only [wipe_cons, wipe_nil, List.set_set]
    unfold turnE
    simp only [E_bl, bind_ok', tru_bl, if_true, h c hc]
    have : pS (fun z => (tl z).all P) (.str (st [c])) = P c := by
      show (tl (st [c])).all P = P c
      simp [st, tl]
    rw [this]
  refine ⟨ν ++ [.lst (((tl w).map fun c => MV.str (st [c])).map fun x => .bl (pS (fun z => (tl z).all P) x))], Grow.app _ _ _, ?_⟩
  rw [E_bi]
  simp only [Es_cons, Es_nil, hc, bind_ok']
  rw [all_new (p := pS (fun z => (tl z).all P)), List.all_map]
  have : (pS (fun z => (tl z).all P) ∘ fun c => MV.str (st [c])) = P := by
    funext c
    show (tl (st [c])).all P = P c
    simp [st, tl]
  rw [this]
theorem sok {p : Str} (h : sOk p = true) : PyData.strOk p = true := h
theorem part_no {r : R MV} : partR true r μ = .ok none μ := rfl
theorem part_so {i : Int} : partR false (R.ok (MV.int i) ν) μ = .ok (some i) ν := rfl
theorem head_cut {p : Str} {n : Nat} (h : p.length ≤ 1000) : slcM μ (.str p) none (some (n : Int)) = .ok (.str (st ((tl p).take n))) μ := by
  simp only [slcM]
  rw [if_pos (by rw [sl]; omega)]
  have : cutM p.cps.toList none (some (n : Int)) = (tl p).take n := by
    unfold cutM sIxM
    simp only [List.drop_zero, Nat.sub_zero]
    rw [if_neg (by omega), Int.toNat_natCast]
    by_cases hn : n ≤ p.cps.toList.length
    · rw [Nat.min_eq_left hn]
    · rw [Nat.min_eq_right (by omega), List.take_of_length_le (Nat.le_refl _), List.take_of_length_le (by show (tl p).length ≤ n; unfold tl; omega)]
  rw [this]
  rfl
theorem tail_cut {p : Str} {n : Nat} (h : p.length ≤ 1000) : slcM μ (.str p) (some (n : Int)) none = .ok (.str (st ((tl p).drop n))) μ := by
  simp only [slcM]
  rw [if_pos (by rw [sl]; omega)]
  have : cutM p.cps.toList (some (n : Int)) none = (tl p).drop n := by
    unfold cutM sIxM
    simp only
    rw [if_neg (by omega), Int.toNat_natCast]
    by_cases hn : n ≤ p.cps.toList.length
    · rw [Nat.min_eq_left hn, List.take_of_length_le (by rw [List.length_drop]; omega)]
    · rw [Nat.min_eq_right (by omega), Nat.sub_self, List.take_zero, List.drop_eq_nil_of_le (by show (tl p).length ≤ n; unfold tl; omega)]
  rw [this]
  rfl
theorem st_tl {p : Str} : st (tl p) = p := mk_tl p
theorem cut_is {p : Str} : Txt.split p "/" = (spl [47] 0 [] (tl p)).map st := by
  refine map_tl_inj ?_
  have h := split_spl p "/" (by decide +kernel) (kind_ok (by decide +kernel))
  have e : tl ("/" : Str) = [47] := by decide +kernel
  rw [e] at h
  rw [h, List.map_map]
  have : (tl ∘ st) = id := rfl
  rw [this, List.map_id]
theorem spl_len (S : List Nat) : ∀ (l acc : List Nat), (spl S 0 acc l).length ≤ l.length + 1 := by
  have key : ∀ (l : List Nat) (k : Nat) (acc : List Nat), (spl S k acc l).length ≤ l.length + 1 := by
    intro l
    induction l with
    | nil => intro k acc; rw [spl_nil]; simp
    | cons c r ih =>
      intro k acc
      cases k with
      | zero =>
        unfold spl
        split
        · simp only [List.length_cons]
          have := ih (S.length - 1) []
          omega
        · have := ih 0 (acc ++ [c])
          simp only [List.length_cons]
          omega
      | succ k =>
        unfold spl
        have := ih k acc
        simp only [List.length_cons]
        omega
  exact fun l acc => key l 0 acc
theorem spl_sub (S : List Nat) : ∀ (l : List Nat) (k : Nat) (acc : List Nat), ∀ w ∈ spl S k acc l, w.length ≤ acc.length + l.length := by
  intro l
  induction l with
  | nil =>
    intro k acc w hw
    rw [spl_nil] at hw
    have : w = acc := by simpa using hw
    subst this
    simp
  | cons c r ih =>
    intro k acc w hw
    cases k with
    | zero =>
      unfold spl at hw
      split at hw
      · rcases List.mem_cons.mp hw with rfl | hw
        · omega
        · have := ih _ _ w hw
          simp only [List.length_nil, List.length_cons] at this ⊢
          omega
      · have := ih _ _ w hw
        simp only [List.length_append, List.length_cons, List.length_nil] at this ⊢
        omega
    | succ k =>
      unfold spl at hw
      have := ih _ _ w hw
      simp only [List.length_cons]
      omega
end
end Mch.k02

/-! ## k02: _law_is_text -/
namespace Mch.k02
open PySem L2 TL Mch
section
variable {ν μ : Mem} {p : Str} {b : Bool}
abbrev bad1 : E := .or (.cmp .Eq (.var 3) (.str "")) (.not (.bi .all [(.comp (.cmp .In (.var 4) (.str "0123456789")) (.var 4) (.var 3) (.bl true) [4])]))
abbrev zer1 : E := .and (.cmp .Gt (.bi .len [(.var 3)]) (.int 1)) (.cmp .Eq (.idx (.var 3) (.int 0)) (.str "0"))
abbrev is0 : S := .asg (.var 1) (.ite (.cmp .Eq (.slc (.var 0) .non (.int 1)) (.str "-")) (.slc (.var 0) (.int 1) .non) (.var 0))
abbrev is1 : S := .asg (.var 2) (.mth .split (.var 1) [(.str "/")])
abbrev any1 : E := .bi .any [(.comp bad1 (.var 3) (.var 2) (.bl true) [3])]
abbrev any2 : E := .bi .any [(.comp zer1 (.var 3) (.var 2) (.bl true) [3])]
abbrev is2 : S := .ite (.or (.cmp .Gt (.bi .len [(.var 0)]) (.int 400)) (.or (.cmp .Gt (.bi .len [(.var 2)]) (.int 2)) any1)) [.ret (.bl false)] []
abbrev is3 : S := .ite (.or any2 (.cmp .Eq (.slc (.var 0) .non (.int 2)) (.str "-0"))) [.ret (.bl false)] []
abbrev is4 : S := .ite (.cmp .Eq (.bi .len [(.var 2)]) (.int 1)) [.ret (.bl true)] []
abbrev is5 : S := .ret (.and (.cmp .Gt (.bi .int [(.idx (.var 2) (.int 1))]) (.int 1)) (.cmp .Eq (.call 34 [(.bi .int [(.idx (.var 2) (.int 0))]), (.bi .int [(.idx (.var 2) (.int 1))])]) (.int 1)))
theorem d39_is : d39.body = [is0, is1, is2, is3, is4, is5] := rfl
theorem len_s {p : Str} (h : p.length ≤ 1000) : biM μ .len [.str p] = .ok (.int p.length) μ := if_pos (by rw [sl]; omega)
theorem in_s {c : Nat} {z : Str} : cmpM μ .In (.str (st [c])) (.str z) = some (decide (c ∈ tl z)) := rfl
theorem idx_s {p : Str} (h : p.length ≤ 1000) : idxM μ (.str p) (.int 0) = ((tl p)[0]?).map fun c => .str (st [c]) := by
  simp only [idxM]
  rw [if_pos (by rw [sl]; omega)]
  have hl : p.cps.toList.length = p.length := by simp [Str.length]
  by_cases h0 : 0 < p.length
  · have : ixM p.cps.toList.length 0 = some 0 := by
      unfold ixM
      rw [if_pos (by omega), if_pos (by omega)]
      rfl
    rw [this]
    rfl
  · have : ixM p.cps.toList.length 0 = none := by
      unfold ixM
      rw [if_pos (by omega), if_neg (by omega)]
    rw [this]
    have : (tl p)[0]? = none := List.getElem?_eq_none (by show (tl p).length ≤ 0; unfold tl; omega)
    rw [this]
    rfl
theorem bad_run (k : Nat) {σ : Env} {w : Str} (hs : σ.length = 5) (h3 : Has σ 3 (.str w)) (hw : w.length ≤ 1000) (ho : sOk w = true) : ∃ ν2, Grow [] ν ν2 ∧ evE (T (k + 1)) bad1 σ ν = .ok (.bl (badP w)) ν2 := by
  have e1 : evE (T (k + 1)) (.cmp .Eq (.var 3) (.str "")) σ ν = .ok (.bl (decide (w = ""))) ν := by
    simp only [E_cmp, h3.ev, E_str, bind_ok', cmp_eqs (sok ho) (show PyData.strOk ("" : Str) = true by decide +kernel), opt_some]
  unfold badP
  by_cases hq : w = ""
  · refine ⟨ν, Grow.refl _ _, ?_⟩
    rw [E_or, e1]
    simp only [hq, decide_true, bind_ok', tru_bl, if_true, Bool.true_or]
  · obtain ⟨ν2, g, he⟩ := all_signs (j := k + 1) (σ := σ) (ν := ν) (elt := .cmp .In (.var 4) (.str "0123456789")) (it := .var 3) (v := 4) (w := w) (P := fun c => decide (c ∈ tl ("0123456789" : Str))) hw (h3.ev _ _) fun c hc => by
      have k4 : Has (σ.set 4 (some (.str (st [c])))) 4 (.str (st [c])) := Has.self (by rw [hs]; decide)
      simp only [E_cmp, k4.ev, E_str, bind_ok', in_s, opt_some]
    refine ⟨ν2, g, ?_⟩
    rw [E_or, e1]
    simp only [hq, decide_false, bind_ok', tru_bl, Bool.false_eq_true, if_false, Bool.false_or]
    rw [E_not, he]
    simp only [bind_ok', tru_bl]
theorem zer_run (k : Nat) {σ : Env} {w : Str} (h3 : Has σ 3 (.str w)) (hw : w.length ≤ 1000) (ho : sOk w = true) : evE (T (k + 1)) zer1 σ ν = .ok (.bl (zeroP w)) ν := by
  unfold zeroP
  by_cases hq : 1 < w.length
  · have hq' : (1 : Int) < (w.length : Int) := by omega
    have hl : (tl w).length = w.length := (len_tl w).symm
    obtain ⟨c, hc⟩ : ∃ c, (tl w)[0]? = some c := ⟨_, List.getElem?_eq_getElem (by omega)⟩
    have hi : idxM ν (.str w) (.int 0) = some (.str (st [c])) := by rw [idx_s hw, hc]; rfl
    have hok : PyData.strOk (st [c]) = true := by
      have hm : c ∈ tl w := List.mem_of_getElem? hc
      have : ∀ c ∈ tl w, c < 1114112 := by
        have := sok ho
        unfold PyData.strOk at this
        intro c hc
        rw [Array.all_eq_true'] at this
        simpa using this c (by simpa using hc)
      show (#[c] : Array Nat).all (fun x => decide (x < 1114112)) = true
      simpa using this c hm
    have he : decide (st [c] = "0") = decide ((tl w)[0]? = some 48) := by
      rw [hc]
      refine decide_eq_decide.mpr ⟨fun z => ?_, fun z => ?_⟩
      · have z2 : tl (st [c]) = tl ("0" : Str) := by rw [z]
        have e0 : tl ("0" : Str) = [48] := by decide +kernel
        rw [e0] at z2
        have : c = 48 := by simpa [st, tl] using z2
        rw [this]
      · have : c = 48 := by simpa using z
        subst this
        decide +kernel
    simp only [E_and, E_cmp, E_bi, Es_cons, Es_nil, h3.ev, bind_ok', len_s hw, E_int, cmp_gt, hq', hq, decide_true, opt_some, tru_bl, if_true, E_idx, hi, E_str, cmp_eqs hok (show PyData.strOk ("0" : Str) = true by decide +kernel), he, Bool.true_and]
  · have hq' : ¬ (1 : Int) < (w.length : Int) := by omega
    simp only [E_and, E_cmp, E_bi, Es_cons, Es_nil, h3.ev, bind_ok', len_s hw, E_int, cmp_gt, hq', hq, decide_false, opt_some, tru_bl, Bool.false_eq_true, if_false, Bool.false_and]
theorem cut_len (hz : p.length ≤ 1000) : (ownT p).length ≤ 1000 ∧ (cutT p).length ≤ 1001 ∧ ∀ w ∈ cutT p, w.length ≤ 1000 := by
  have h1 : (ownT p).length ≤ 1000 := by
    unfold ownT
    split
    · rw [len_tl]
      show ((tl p).drop 1).length ≤ 1000
      rw [List.length_drop, ← len_tl]
      omega
    · exact hz
  have h2 : (tl (ownT p)).length ≤ 1000 := by rw [← len_tl]; exact h1
  refine ⟨h1, ?_, fun w hw => ?_⟩
  · unfold cutT
    rw [List.length_map]
    have := spl_len [47] (tl (ownT p)) []
    omega
  · unfold cutT at hw
    obtain ⟨l, hl, rfl⟩ := List.mem_map.mp hw
    have := spl_sub [47] _ _ _ l hl
    rw [len_tl]
    show l.length ≤ 1000
    simp only [List.length_nil, Nat.zero_add] at this
    omega
theorem isT_run (k : Nat) (hz : p.length ≤ 1000) (h : isT p = some b) : ∃ ν, Grow [] μ ν ∧ (T (k + 2)).call 39 [.str p] μ = .ok (.bl b) ν := by
  obtain ⟨z1, z2, z3⟩ := cut_len hz
  rw [run39]
  suffices hs : ∃ ν, Grow [] μ ν ∧ evB (T (k + 1)) d39.body [some (.str p), none, none, none, none] μ = .ok (.ret (.bl b)) ν by
    obtain ⟨ν, g, e⟩ := hs
    refine ⟨ν, g, ?_⟩
    simp only [runD, fullArgs]
    have e4 : slots d39 ([MV.str p] ++ List.drop (d39.dfl.length - (d39.np - [MV.str p].length)) d39.dfl) = [some (.str p), none, none, none, none] := rfl
    rw [e4, e]
    rfl
  unfold isT at h
  split at h
  · cases h
  rename_i hg
  simp only [Bool.not_eq_true', Bool.not_eq_false, Bool.and_eq_true, List.all_eq_true] at hg
  obtain ⟨g1, g2, g3, g4, g5⟩ := hg
  have s0 : evS (T (k + 1)) is0 [some (.str p), none, none, none, none] μ = .ok (.next [some (.str p), some (.str (ownT p)), none, none, none]) μ := by
    have hc : slcM μ (.str p) none (some 1) = .ok (.str (st ((tl p).take 1))) μ := head_cut (n := 1) hz
    have ht : slcM μ (.str p) (some 1) none = .ok (.str (st ((tl p).drop 1))) μ := tail_cut (n := 1) hz
    have e1 : evE (T (k + 1)) (.slc (.var 0) .non (.int 1)) [some (.str p), none, none, none, none] μ = .ok (.str (st ((tl p).take 1))) μ := by
      rw [E_slc]
      simp only [E_var0, E_int, E.isNon, bind_ok', part_no, part_so, hc]
    have e2 : evE (T (k + 1)) (.slc (.var 0) (.int 1) .non) [some (.str p), none, none, none, none] μ = .ok (.str (st ((tl p).drop 1))) μ := by
      rw [E_slc]
      simp only [E_var0, E_int, E.isNon, bind_ok', part_no, part_so, ht]
    have e3 : evE (T (k + 1)) (.cmp .Eq (.slc (.var 0) .non (.int 1)) (.str "-")) [some (.str p), none, none, none, none] μ = .ok (.bl (decide (st ((tl p).take 1) = "-"))) μ := by
      simp only [E_cmp, e1, E_str, bind_ok', cmp_eqs (sok g2) (show PyData.strOk ("-" : Str) = true by decide +kernel), opt_some]
    unfold ownT
    rw [S_asg, E_ite, e3]
    by_cases hq : st ((tl p).take 1) = "-"
    · simp only [hq, decide_true, bind_ok', tru_bl, if_true, e2, stm_ok', A_var, calm_ok', List.set_cons_zero, List.set_cons_succ]
    · simp only [hq, decide_false, bind_ok', tru_bl, Bool.false_eq_true, if_false, E_var0, stm_ok', A_var, calm_ok', List.set_cons_zero, List.set_cons_succ]
  have s1 : evS (T (k + 1)) is1 [some (.str p), some (.str (ownT p)), none, none, none] μ = .ok (.next [some (.str p), some (.str (ownT p)), some (.ref μ.length), none, none]) (μ ++ [.lst ((cutT p).map .str)]) := by
    have hm : mthM μ .split (.str (ownT p)) [.str "/"] = .ok (.ref μ.length) (μ ++ [.lst ((cutT p).map .str)]) := by
      simp only [mthM]
      rw [if_pos ⟨by decide +kernel, by rw [sl]; omega⟩, cut_is]
      exact newL_ok' (by rw [sl, List.length_map]; show (cutT p).length ≤ _; omega)
    simp only [S_asg, E_mth, E_var0, E_varS, bind_ok', show mthTy μ .split (.str (ownT p)) = true from rfl, if_true, Es_cons, Es_nil, E_str, hm, stm_ok', A_var, calm_ok', List.set_cons_zero, List.set_cons_succ]
  rw [d39_is, B_cons, s0, go_next, B_cons, s1, go_next]
  generalize hν1 : μ ++ [Cell.lst ((cutT p).map MV.str)] = ν1
  have gr1 : Grow [] μ ν1 := by rw [← hν1]; exact Grow.app _ _ _
  have hl1 : lstAt ν1 μ.length = some ((cutT p).map .str) := by rw [← hν1]; exact lstAt_new
  generalize hσ : [some (MV.str p), some (.str (ownT p)), some (.ref μ.length), none, none] = σ
  have L : σ.length = 5 := by rw [← hσ]; rfl
  have v0 : Has σ 0 (.str p) := by rw [← hσ]; rfl
  have v2 : Has σ 2 (.ref μ.length) := by rw [← hσ]; rfl
  have lenr : ∀ {ν'}, Grow [] ν1 ν' → biM ν' .len [.ref μ.length] = .ok (.int (cutT p).length) ν' := fun gr => by
    simp only [biM, gr.lst hl1 (by simp), List.length_map]
  have rt : ∀ {b : Bool} {rest : List S} {ν'}, evS (T (k + 1)) (.ret (.bl b)) σ ν' = .ok (.ret (.bl b)) ν' := fun {b rest ν'} => by simp only [S_ret, E_bl, stm_ok']
  have gt400 : evE (T (k + 1)) (.cmp .Gt (.bi .len [(.var 0)]) (.int 400)) σ ν1 = .ok (.bl (decide (400 < p.length))) ν1 := by
    simp only [E_cmp, E_bi, Es_cons, Es_nil, v0.ev, bind_ok', len_s hz, E_int, cmp_gt, opt_some]
    congr 2
    exact decide_eq_decide.mpr (by omega)
  have gt2 : evE (T (k + 1)) (.cmp .Gt (.bi .len [(.var 2)]) (.int 2)) σ ν1 = .ok (.bl (decide (2 < (cutT p).length))) ν1 := by
    simp only [E_cmp, E_bi, Es_cons, Es_nil, v2.ev, bind_ok', lenr (Grow.refl _ _), E_int, cmp_gt, opt_some]
    congr 2
    exact decide_eq_decide.mpr (by omega)
  split at h
  · rename_i q1
    cases h
    refine ⟨ν1, gr1, ?_⟩
    rw [B_cons, S_ite, E_or, gt400]
    simp only [q1, decide_true, bind_ok', tru_bl, if_true, stm_ok', B_cons, B_nil, rt, go_ret, S_ret, E_bl]
  rename_i q1
  split at h
  · rename_i q2
    cases h
    refine ⟨ν1, gr1, ?_⟩
    rw [B_cons, S_ite, E_or, gt400]
    simp only [q1, decide_false, bind_ok', tru_bl, Bool.false_eq_true, if_false]
    rw [E_or, gt2]
    simp only [q2, decide_true, bind_ok', tru_bl, if_true, stm_ok', B_cons, B_nil, go_ret, S_ret, E_bl]
  rename_i q2
  obtain ⟨ν2, gr2, ha1⟩ := any_texts (j := k + 1) (σ := σ) (ν := ν1) (elt := bad1) (it := .var 2) (v := 3) (m := μ.length) (ws := cutT p) (P := badP) (by omega) (v2.ev _ _) hl1 fun w hw ν' gr' =>
    bad_run k (by rw [List.length_set]; exact L) (Has.self (by rw [L]; decide)) (z3 w hw) (g5 w hw)
  have st2 : evS (T (k + 1)) is2 σ ν1 = if (cutT p).any badP then .ok (.ret (.bl false)) ν2 else .ok (.next σ) ν2 := by
    rw [S_ite, E_or, gt400]
    simp only [q1, decide_false, bind_ok', tru_bl, Bool.false_eq_true, if_false]
    rw [E_or, gt2]
    simp only [q2, decide_false, bind_ok', tru_bl, Bool.false_eq_true, if_false, ha1, stm_ok']
    cases (cutT p).any badP
    · simp only [Bool.false_eq_true, if_false, B_nil]
    · simp only [if_true, B_cons, B_nil, S_ret, E_bl, stm_ok', go_ret]
  split at h
  · rename_i q3
    cases h
    refine ⟨ν2, gr1.trans gr2, ?_⟩
    rw [B_cons, st2, if_pos q3, go_ret]
  rename_i q3
  have hl2 := gr2.lst hl1 (by simp)
  obtain ⟨ν3, gr3, ha2⟩ := any_texts (j := k + 1) (σ := σ) (ν := ν2) (elt := zer1) (it := .var 2) (v := 3) (m := μ.length) (ws := cutT p) (P := zeroP) (by omega) (v2.ev _ _) hl2 fun w hw ν' gr' =>
    ⟨ν', Grow.refl _ _, zer_run k (Has.self (by rw [L]; decide)) (z3 w hw) (g5 w hw)⟩
  have hc2 : slcM ν3 (.str p) none (some 2) = .ok (.str (st ((tl p).take 2))) ν3 := head_cut (n := 2) hz
  have e2 : evE (T (k + 1)) (.cmp .Eq (.slc (.var 0) .non (.int 2)) (.str "-0")) σ ν3 = .ok (.bl (decide (st ((tl p).take 2) = "-0"))) ν3 := by
    have e1 : evE (T (k + 1)) (.slc (.var 0) .non (.int 2)) σ ν3 = .ok (.str (st ((tl p).take 2))) ν3 := by
      rw [E_slc]
      simp only [v0.ev, E_int, E.isNon, bind_ok', part_no, part_so, hc2]
    simp only [E_cmp, e1, E_str, bind_ok', cmp_eqs (sok g3) (show PyData.strOk ("-0" : Str) = true by decide +kernel), opt_some]
  have st3 : evS (T (k + 1)) is3 σ ν2 = if (cutT p).any zeroP || decide (st ((tl p).take 2) = "-0") then .ok (.ret (.bl false)) ν3 else .ok (.next σ) ν3 := by
    rw [S_ite, E_or, ha2]
    cases (cutT p).any zeroP
    · simp only [bind_ok', tru_bl, Bool.false_eq_true, if_false, e2, stm_ok', Bool.false_or]
      by_cases hq : st ((tl p).take 2) = "-0"
      · simp only [hq, decide_true, if_true, B_cons, B_nil, S_ret, E_bl, stm_ok', go_ret]
      · simp only [hq, decide_false, Bool.false_eq_true, if_false, B_nil]
    · simp only [bind_ok', tru_bl, if_true, stm_ok', Bool.true_or, B_cons, B_nil, S_ret, E_bl, go_ret]
  rw [B_cons, st2, if_neg q3, go_next, B_cons, st3]
  have gr13 := gr1.trans (gr2.trans gr3)
  split at h
  · rename_i q4
    cases h
    refine ⟨ν3, gr13, ?_⟩
    rw [q4]
    simp only [Bool.true_or, if_true, go_ret]
  rename_i q4
  split at h
  · rename_i q5
    cases h
    refine ⟨ν3, gr13, ?_⟩
    simp only [q5, decide_true, Bool.or_true, if_true, go_ret]
  rename_i q5
  have q4' : (cutT p).any zeroP = false := by simpa using q4
  have hl3 := gr3.lst hl2 (by simp)
  have l3 := lenr (gr2.trans gr3)
  simp only [q4', q5, decide_false, Bool.or_self, Bool.false_eq_true, if_false, go_next]
  split at h
  · rename_i w hw
    cases h
    rw [hw] at l3
    refine ⟨ν3, gr13, ?_⟩
    have l3 : biM ν3 .len [.ref μ.length] = .ok (.int 1) ν3 := l3
    simp only [B_cons, S_ite, E_cmp, E_bi, Es_cons, Es_nil, v2.ev, bind_ok', l3, E_int, cmp_eqi, decide_true, opt_some, tru_bl, stm_ok', if_true, B_nil, S_ret, E_bl, go_ret]
  · rename_i w1 w2 hw
    rw [hw] at l3 hl3
    have l3 : biM ν3 .len [.ref μ.length] = .ok (.int 2) ν3 := l3
    have i0 : idxM ν3 (.ref μ.length) (.int 0) = some (.str w1) := by
      simp only [idxM, hl3]
      rfl
    have i1 : idxM ν3 (.ref μ.length) (.int 1) = some (.str w2) := by
      simp only [idxM, hl3]
      rfl
    split at h
    · rename_i x y hx hy
      split at h
      · rename_i hlen
        have n1 : biM ν3 .int [.str w1] = .ok (.int x) ν3 := by
          simp only [biM, hx]
          exact if_pos hlen.1
        have n2 : biM ν3 .int [.str w2] = .ok (.int y) ν3 := by
          simp only [biM, hy]
          exact if_pos hlen.2
        have two : ¬ ((2 : Int) = 1) := by decide
        refine ⟨ν3, gr13, ?_⟩
        rw [B_cons]
        simp only [S_ite, E_cmp, E_bi, Es_cons, Es_nil, v2.ev, bind_ok', l3, E_int, cmp_eqi, two, decide_false, opt_some, tru_bl, stm_ok', Bool.false_eq_true, if_false, B_nil, go_next, B_cons, S_ret, E_and, E_idx, i1, n2, cmp_gt]
        split at h
        · rename_i hy1
          cases h
          have : ¬ (1 < y) := by omega
          simp only [this, decide_false, bind_ok', opt_some, tru_bl, Bool.false_eq_true, if_false, stm_ok', go_ret]
        · rename_i hy1
          split at h
          · rename_i hxy
            cases h
            have h1y : 1 < y := by omega
            have hgc := law_common k (a := x) (b := y) (μ := ν3) (by omega)
            simp only [h1y, decide_true, bind_ok', opt_some, tru_bl, if_true, E_call, Es_cons, Es_nil, E_bi, E_idx, v2.ev, E_int, i0, i1, n1, n2, hgc, cmp_eqi, stm_ok', go_ret]
            congr 3
            exact decide_eq_decide.mpr (by omega)
          · cases h
      · cases h
    · cases h
  · cases h
end
end Mch.k02

/-! ## k02: read_ratio -/
namespace Mch.k02
open PySem L2 TL Mch
def xN : MX := ⟨3, [.int 0]⟩
def Out (res : RS) (r : Option Rat) (ν : Mem) : Prop := match r with
  | some q => res = .ok (.ret (oR q)) ν
  | none => ∃ σ', res = .exc xN σ' ν
def outR (r : Option Rat) (ν : Mem) : R MV := match r with
  | some q => .ok (oR q) ν
  | none => .exc xN ν
section
variable {ν μ : Mem} {p : Str} {σ : Env}
abbrev dg : E := .bi .all [(.comp (.cmp2 .LtE .LtE (.str "0") (.var 6) (.str "9")) (.var 6) (.var 1) (.bl true) [6])]
abbrev pc : S := .ite (.or (.ocmp .Eq (.var 1) (.str "")) (.not dg)) [.raise 3 [(.int 0)]] []
abbrev slE : E := .ocmp .Eq (.var 4) (.str "/")
abbrev lwE : E := .ite slE (.var 5) (.str "1")
abbrev rs0 : S := .ite (.or (.not (.isin (.var 0) [.str])) (.ocmp .Gt (.bi .len [(.var 0)]) (.int 400))) [.raise 3 [(.int 0)]] []
abbrev rs1 : S := .asg (.tup [(.var 3), (.var 4), (.var 5)]) (.mth .partition (.mth .removeprefix (.var 0) [(.str "-")]) [(.str "/")])
abbrev rs2 : S := .for (.var 1) (.tup [(.var 3), lwE]) [pc]
abbrev rs3 : S := .ite (.and slE (.ocmp .Eq (.bi .int [(.var 5)]) (.int 0))) [.raise 3 [(.int 0)]] []
abbrev rs4 : S := .asg (.var 2) (.mk 4 [(.bi .int [(.var 3)]), (.ite slE (.bi .int [(.var 5)]) (.int 1))])
abbrev rs5 : S := .asg (.var 2) (.ite (.mth .startswith (.var 0) [(.str "-")]) (.oneg (.var 2)) (.var 2))
abbrev rs6 : S := .ite (.ocmp .NotEq (.ostr (.var 2)) (.var 0)) [.raise 3 [(.int 0)]] []
theorem d27_is : d27.body = [rs0, rs1, rs2, rs3, rs4, rs5, rs6, .ret (.var 2)] := rfl
theorem raise_n (k : Nat) : evS (T k) (.raise 3 [(.int 0)]) σ ν = .exc xN σ ν := S_raise (xs := [.int 0]) (by simp) (by rw [TP]; rfl)
theorem lt1 {a b : Nat} : [a] < [b] ↔ a < b := by simp [List.cons_lt_cons_iff]
theorem le0 {c : Nat} : cmpM μ .LtE (.str "0") (.str (st [c])) = some (decide (48 ≤ c)) := by
  have e : tl ("0" : Str) = [48] := by decide +kernel
  show some (!decide ([c] < tl ("0" : Str))) = _
  rw [e]
  congr 1
  rw [← decide_not]
  exact decide_eq_decide.mpr (by rw [lt1]; omega)
theorem le9 {c : Nat} : cmpM μ .LtE (.str (st [c])) (.str "9") = some (decide (c ≤ 57)) := by
  have e : tl ("9" : Str) = [57] := by decide +kernel
  show some (!decide (tl ("9" : Str) < [c])) = _
  rw [e]
  congr 1
  rw [← decide_not]
  exact decide_eq_decide.mpr (by rw [lt1]; omega)
theorem pc_run (k : Nat) {w : Str} (hs : σ.length = 7) (h1 : Has σ 1 (.str w)) (hw : w.length ≤ 1000) (ho : sOk w = true) : ∃ ν2, Grow [] ν ν2 ∧ evB (T k) [pc] σ ν = if num w then .ok (.next σ) ν2 else .exc xN σ ν2 := by
  have e1 : evE (T k) (.ocmp .Eq (.var 1) (.str "")) σ ν = .ok (.bl (decide (w = ""))) ν := by
    simp only [E_ocmp, h1.ev, E_str, bind_ok', cmpT_str, cmp_eqs (sok ho) (show PyData.strOk ("" : Str) = true by decide +kernel), opt_some]
  unfold num
  by_cases hq : w = ""
  · refine ⟨ν, Grow.refl _ _, ?_⟩
    rw [B_cons, S_ite, E_or, e1]
    simp only [hq, decide_true, bind_ok', tru_bl, if_true, stm_ok', B_cons, raise_n, go_exc, Bool.not_true, Bool.false_and, Bool.false_eq_true, if_false]
  · obtain ⟨ν2, g, he⟩ := all_signs (j := k) (σ := σ) (ν := ν) (elt := .cmp2 .LtE .LtE (.str "0") (.var 6) (.str "9")) (it := .var 1) (v := 6) (w := w) (P := fun c => decide (48 ≤ c) && decide (c ≤ 57)) hw (h1.ev _ _) fun c hc => by
      have k6 : Has (σ.set 6 (some (.str (st [c])))) 6 (.str (st [c])) := Has.self (by rw [hs]; decide)
      simp only [E_cmp2, k6.ev, E_str, bind_ok', le0, opt_some]
      by_cases hc : 48 ≤ c
      · simp only [hc, decide_true, if_true, le9, opt_some, bind_ok', Bool.true_and]
      · simp only [hc, decide_false, Bool.false_eq_true, if_false, Bool.false_and]
    refine ⟨ν2, g, ?_⟩
    rw [B_cons, S_ite, E_or, e1]
    simp only [hq, decide_false, bind_ok', tru_bl, Bool.false_eq_true, if_false]
    rw [E_not, he]
    unfold digs
    cases (tl w).all fun c => decide (48 ≤ c) && decide (c ≤ 57)
    · simp only [bind_ok', tru_bl, Bool.not_false, stm_ok', if_true, B_cons, raise_n, go_exc, Bool.and_false, Bool.false_eq_true, if_false]
    · simp only [bind_ok', tru_bl, Bool.not_true, stm_ok', Bool.false_eq_true, if_false, B_nil, go_next, Bool.not_false, Bool.true_and, if_true]
theorem rd_run (k : Nat) {r : Option Rat} (hz : p.length ≤ 1000) (h : rd p = some r) : ∃ ν, Grow [] μ ν ∧ (T (k + 4)).call 27 [.str p] μ = outR r ν := by
  rw [run27]
  suffices hs : ∃ ν, Grow [] μ ν ∧ Out (evB (T (k + 3)) d27.body [some (.str p), none, none, none, none, none, none] μ) r ν by
    obtain ⟨ν, g, e⟩ := hs
    refine ⟨ν, g, ?_⟩
    simp only [runD, fullArgs]
    have e4 : slots d27 ([MV.str p] ++ List.drop (d27.dfl.length - (d27.np - [MV.str p].length)) d27.dfl) = [some (.str p), none, none, none, none, none, none] := rfl
    rw [e4]
    cases r with
    | some q =>
      have e : evB (T (k + 3)) d27.body [some (.str p), none, none, none, none, none, none] μ = .ok (.ret (oR q)) ν := e
      rw [e]
      rfl
    | none =>
      obtain ⟨σ', e⟩ := e
      rw [e]
      rfl
  rw [d27_is]
  have ty : tysM prog μ (.str p) [.str] = some true := rfl
  have c0 : evE (T (k + 3)) (.or (.not (.isin (.var 0) [.str])) (.ocmp .Gt (.bi .len [(.var 0)]) (.int 400))) [some (.str p), none, none, none, none, none, none] μ = .ok (.bl (decide (400 < p.length))) μ := by
    simp only [E_or, E_not, E_isin, E_var0, bind_ok', TP, ty, opt_some, tru_bl, Bool.not_true, Bool.false_eq_true, if_false, E_ocmp, E_bi, Es_cons, Es_nil, len_s hz, E_int, cmpT_int, cmp_gt]
    congr 2
    exact decide_eq_decide.mpr (by omega)
  unfold rd at h
  split at h
  · rename_i q1
    cases h
    refine ⟨μ, Grow.refl _ _, [some (.str p), none, none, none, none, none, none], ?_⟩
    rw [B_cons, S_ite, c0]
    simp only [q1, decide_true, stm_ok', tru_bl, if_true, B_cons, raise_n, go_exc]
  rename_i q1
  split at h
  rotate_left
  · cases h
  rename_i n1
  generalize hr : Txt.removeprefix p "-" = rp at h n1
  generalize ht1 : (Txt.partition rp "/").1 = tp at h
  generalize ht2 : (Txt.partition rp "/").2.1 = sp at h
  generalize ht3 : (Txt.partition rp "/").2.2 = lp at h
  generalize hlw : lwT sp lp = lw at h
  unfold lwT at hlw
  unfold rd3 at h
  split at h
  · cases h
  rename_i hg
  simp only [Bool.not_eq_true', Bool.not_eq_false, Bool.and_eq_true, decide_eq_true_eq] at hg
  obtain ⟨n2, n3, o1, o2, o3, o4⟩ := hg
  have m1 : mthM μ .removeprefix (.str p) [.str "-"] = .ok (.str rp) μ := by
    simp only [mthM]
    rw [if_pos (by rw [sl]; omega), hr]
  have m2 : mthM μ .partition (.str rp) [.str "/"] = .ok (.tup [.str tp, .str sp, .str lp]) μ := by
    simp only [mthM]
    rw [if_pos ⟨by decide +kernel, by rw [sl]; omega⟩, newT3, ht1, ht2, ht3]
  have s1 : evS (T (k + 3)) rs1 [some (.str p), none, none, none, none, none, none] μ = .ok (.next [some (.str p), none, none, some (.str tp), some (.str sp), some (.str lp), none]) μ := by
    simp only [S_asg, E_mth, E_var0, bind_ok', show mthTy μ .removeprefix (.str p) = true from rfl, if_true, Es_cons, Es_nil, E_str, m1, show mthTy μ .partition (.str rp) = true from rfl, m2, stm_ok', A_tup, List.length_cons, List.length_nil, Ag_cons, Ag_nil, A_var, calm_ok', List.set_cons_zero, List.set_cons_succ]
  rw [B_cons, S_ite, c0]
  simp only [q1, decide_false, stm_ok', tru_bl, Bool.false_eq_true, if_false]
  rw [B_nil, go_next, B_cons, s1, go_next]
  generalize hσ : [some (MV.str p), none, none, some (.str tp), some (.str sp), some (.str lp), none] = σ1
  have L : σ1.length = 7 := by rw [← hσ]; rfl
  have v0 : Has σ1 0 (.str p) := by rw [← hσ]; rfl
  have v3 : Has σ1 3 (.str tp) := by rw [← hσ]; rfl
  have v4 : Has σ1 4 (.str sp) := by rw [← hσ]; rfl
  have v5 : Has σ1 5 (.str lp) := by rw [← hσ]; rfl
  have eS : ∀ {σ : Env} {ν : Mem}, Has σ 4 (.str sp) → evE (T (k + 3)) slE σ ν = .ok (.bl (decide (sp = "/"))) ν := fun h4 => by
    simp only [E_ocmp, h4.ev, E_str, bind_ok', cmpT_str, cmp_eqs (sok o3) (show PyData.strOk ("/" : Str) = true by decide +kernel), opt_some]
  have eL : evE (T (k + 3)) lwE σ1 μ = .ok (.str lw) μ := by
    rw [E_ite, eS v4, ← hlw]
    by_cases hq : sp = "/"
    · simp only [hq, decide_true, bind_ok', tru_bl, if_true, v5.ev]
    · simp only [hq, decide_false, bind_ok', tru_bl, Bool.false_eq_true, if_false, E_str]
  -- the two pieces
  have a1 : Has (σ1.set 1 (some (.str tp))) 1 (.str tp) := Has.self (by rw [L]; decide)
  have a2 : Has ((σ1.set 1 (some (.str tp))).set 1 (some (.str lw))) 1 (.str lw) := Has.self (by rw [List.length_set, L]; decide)
  obtain ⟨ν1, g1, p1⟩ := pc_run (ν := μ) (k + 3) (by rw [List.length_set]; exact L) a1 (by omega) o2
  obtain ⟨ν2, g2, p2⟩ := pc_run (ν := ν1) (k + 3) (by rw [List.length_set, List.length_set]; exact L) a2 (by omega) o4
  have loop : evS (T (k + 3)) rs2 σ1 μ = if num tp then (if num lw then .ok (.next ((σ1.set 1 (some (.str tp))).set 1 (some (.str lw)))) ν2 else .exc xN ((σ1.set 1 (some (.str tp))).set 1 (some (.str lw))) ν2) else .exc xN (σ1.set 1 (some (.str tp))) ν1 := by
    have ei : evE (T (k + 3)) (.tup [(.var 3), lwE]) σ1 μ = .ok (.tup [.str tp, .str lw]) μ := by
      rw [E_tup]
      simp only [Es_cons, Es_nil, v3.ev, eL, bind_ok', newT2]
    rw [S_for, ei]
    simp only [stm_ok', itM]
    rw [forL_two (by rw [Tn]; decide) (σ1 := σ1.set 1 (some (.str tp))) (by simp only [T_var]) (fun σ => ⟨σ.set 1 (some (.str lw)), by simp only [T_var]⟩), p1]
    cases num tp
    · simp only [Bool.false_eq_true, if_false]
      rfl
    · simp only [if_true, T_var]
      show (evB (T (k + 3)) [pc] ((σ1.set 1 (some (.str tp))).set 1 (some (.str lw))) ν1).turn _ = _
      rw [p2]
      cases num lw
      · simp only [Bool.false_eq_true, if_false]
        rfl
      · simp only [if_true]
        rfl
  rw [B_cons, loop]
  split at h
  · rename_i q2
    cases h
    have q2 : num tp = false := by simpa using q2
    refine ⟨ν1, g1, σ1.set 1 (some (.str tp)), ?_⟩
    rw [q2]
    simp only [Bool.false_eq_true, if_false, go_exc]
  rename_i q2
  have q2 : num tp = true := by simpa using q2
  split at h
  · rename_i q3
    cases h
    have q3 : num lw = false := by simpa using q3
    refine ⟨ν2, g1.trans g2, (σ1.set 1 (some (.str tp))).set 1 (some (.str lw)), ?_⟩
    rw [q2, q3]
    simp only [Bool.false_eq_true, if_false, if_true, go_exc]
  rename_i q3
  have q3 : num lw = true := by simpa using q3
  rw [q2, q3]
  simp only [if_true, go_next]
  have g12 := g1.trans g2
  generalize hσ2 : (σ1.set 1 (some (.str tp))).set 1 (some (.str lw)) = σ2
  have L2 : σ2.length = 7 := by rw [← hσ2]; simp only [List.length_set]; exact L
  have w0 : Has σ2 0 (.str p) := by rw [← hσ2]; exact (v0.ne (by decide)).ne (by decide)
  have w3 : Has σ2 3 (.str tp) := by rw [← hσ2]; exact (v3.ne (by decide)).ne (by decide)
  have w4 : Has σ2 4 (.str sp) := by rw [← hσ2]; exact (v4.ne (by decide)).ne (by decide)
  have w5 : Has σ2 5 (.str lp) := by rw [← hσ2]; exact (v5.ne (by decide)).ne (by decide)
  split at h
  · rename_i a b ha hb
    split at h
    · rename_i hab
      have i3 : biM ν2 .int [.str tp] = .ok (.int a) ν2 := by
        simp only [biM, ha]
        exact if_pos n2
      have e5 : evE (T (k + 3)) (.ite slE (.bi .int [(.var 5)]) (.int 1)) σ2 ν2 = .ok (.int b) ν2 ∧ (sp = "/" → biM ν2 .int [.str lp] = .ok (.int b) ν2) := by
        by_cases hq : sp = "/"
        · have hl : lp = lw := by rw [← hlw, if_pos hq]
          have i5 : biM ν2 .int [.str lp] = .ok (.int b) ν2 := by
            rw [hl]
            simp only [biM, hb]
            exact if_pos n3
          refine ⟨?_, fun _ => i5⟩
          rw [E_ite, eS w4]
          simp only [hq, decide_true, bind_ok', tru_bl, if_true, E_bi, Es_cons, Es_nil, w5.ev, i5]
        · have hl : lw = "1" := by rw [← hlw, if_neg hq]
          rw [hl] at hb
          have h1 : intText? "1" = some 1 := by decide +kernel
          rw [h1] at hb
          cases hb
          refine ⟨?_, fun z => absurd z hq⟩
          rw [E_ite, eS w4]
          simp only [hq, decide_false, bind_ok', tru_bl, Bool.false_eq_true, if_false, E_int]
      have c3 : evE (T (k + 3)) (.and slE (.ocmp .Eq (.bi .int [(.var 5)]) (.int 0))) σ2 ν2 = .ok (.bl (decide (sp = "/" ∧ b = 0))) ν2 := by
        rw [E_and, eS w4]
        by_cases hq : sp = "/"
        · simp only [hq, decide_true, bind_ok', tru_bl, if_true, E_ocmp, E_bi, Es_cons, Es_nil, w5.ev, e5.2 hq, E_int, cmpT_int, cmp_eqi, opt_some, true_and]
        · simp only [hq, decide_false, bind_ok', tru_bl, Bool.false_eq_true, if_false, false_and]
      split at h
      · rename_i q4
        cases h
        refine ⟨ν2, g12, σ2, ?_⟩
        rw [B_cons, S_ite, c3]
        simp only [q4, and_self, decide_true, stm_ok', tru_bl, if_true, B_cons, raise_n, go_exc]
      rename_i q4
      split at h
      · cases h
      rename_i hb0
      have hp8 : ∀ {x : Nat}, x < 2 ^ 30 → x < 2 ^ 8000 := fun hx => Nat.lt_of_lt_of_le hx (Nat.pow_le_pow_right (by decide) (by decide))
      have hmk := mk_rat (k + 1) (a := a) (b := b) (μ := ν2) hb0 (hp8 hab.1) (hp8 hab.2)
      have bq : Bd 30 (Rat.divInt a b) := bd_of hb0 hab.1 hab.2
      have s4 : evS (T (k + 3)) rs4 σ2 ν2 = .ok (.next (σ2.set 2 (some (oR (Rat.divInt a b))))) ν2 := by
        rw [S_asg, E_mk]
        simp only [Es_cons, Es_nil, E_bi, w3.ev, bind_ok', i3, e5.1, hmk, stm_ok', A_var, calm_ok']
      rw [B_cons, S_ite, c3]
      simp only [q4, decide_false, stm_ok', tru_bl, Bool.false_eq_true, if_false]
      rw [B_nil, go_next, B_cons, s4, go_next]
      generalize hσ3 : σ2.set 2 (some (oR (Rat.divInt a b))) = σ3
      have x0 : Has σ3 0 (.str p) := by rw [← hσ3]; exact w0.ne (by decide)
      have x2 : Has σ3 2 (oR (Rat.divInt a b)) := by rw [← hσ3]; exact Has.self (by rw [L2]; decide)
      have L3 : σ3.length = 7 := by rw [← hσ3, List.length_set]; exact L2
      generalize hqq : (if Txt.startswith p "-" = true then -(Rat.divInt a b) else Rat.divInt a b) = q at h
      have bqq : Bd 30 q := by
        rw [← hqq]
        split
        · exact bq.neg
        · exact bq
      have s5 : evS (T (k + 3)) rs5 σ3 ν2 = .ok (.next (σ3.set 2 (some (oR q)))) ν2 := by
        have m5 : mthM ν2 .startswith (.str p) [.str "-"] = .ok (.bl (Txt.startswith p "-")) ν2 := rfl
        have en : evE (T (k + 3)) (.oneg (.var 2)) σ3 ν2 = .ok (oR (-(Rat.divInt a b))) ν2 := e_neg (j := k) (x2.ev _ _) bq (by decide)
        rw [S_asg, E_ite]
        simp only [E_mth, x0.ev, bind_ok', show mthTy ν2 .startswith (.str p) = true from rfl, if_true, Es_cons, Es_nil, E_str, m5, tru_bl]
        rw [← hqq]
        cases Txt.startswith p "-"
        · simp only [Bool.false_eq_true, if_false, x2.ev, stm_ok', A_var, calm_ok']
        · simp only [if_true, en, stm_ok', A_var, calm_ok']
      rw [B_cons, s5, go_next]
      generalize hσ4 : σ3.set 2 (some (oR q)) = σ4
      have y0 : Has σ4 0 (.str p) := by rw [← hσ4]; exact x0.ne (by decide)
      have y2 : Has σ4 2 (oR q) := by rw [← hσ4]; exact Has.self (by rw [L3]; decide)
      have es : evE (T (k + 3)) (.ostr (.var 2)) σ4 ν2 = .ok (.str (rTxt q)) ν2 := by
        simp only [E_ostr, y2.ev, bind_ok']
        exact strR (J := k + 2) (bqq.mono (by decide))
      have c6 : evE (T (k + 3)) (.ocmp .NotEq (.ostr (.var 2)) (.var 0)) σ4 ν2 = .ok (.bl (!decide (rTxt q = p))) ν2 := by
        rw [E_ocmp, es]
        simp only [bind_ok', y0.ev, cmpT_str, cmp_nes (rTxt_ok q) (sok o1), opt_some]
      rw [B_cons, S_ite, c6]
      split at h
      · rename_i q6
        cases h
        refine ⟨ν2, g12, ?_⟩
        show _ = _
        simp only [q6, decide_true, Bool.not_true, stm_ok', tru_bl, Bool.false_eq_true, if_false, B_nil, go_next, B_cons, S_ret, y2.ev, go_ret]
      · rename_i q6
        cases h
        refine ⟨ν2, g12, σ4, ?_⟩
        simp only [q6, decide_false, Bool.not_false, stm_ok', tru_bl, if_true, B_cons, raise_n, go_exc]
    · cases h
  · cases h
end
end Mch.k02

/-! ## k02: calls that may fail; read_ratios, ratios -/
namespace Mch.k02
open PySem L2 TL Mch
section
variable {ν μ : Mem} {p : Str} {σ : Env}
abbrev toldS : MV := .str "told"
def resK : R MV → R MV
  | .ok v ν => .ok (.tup [toldS, v]) ν
  | .exc x ν => if x.c = 1 then .ok (.tup [.str "malformed", .non]) ν else if x.c = 3 then .exc x ν else .no
  | .no => .no
abbrev tryB : List S := [S.ite (.cmp .Eq (.bi .len [(.var 1)]) (.int 1)) [.ret (.tup [(.str "told"), (.callv 0 [(.idx (.var 1) (.int 0))])])] [], .ite (.cmp .Eq (.bi .len [(.var 1)]) (.int 2)) [.ret (.tup [(.str "told"), (.callv 0 [(.idx (.var 1) (.int 0)), (.idx (.var 1) (.int 1))])])] [], .ite (.cmp .Eq (.bi .len [(.var 1)]) (.int 3)) [.ret (.tup [(.str "told"), (.callv 0 [(.idx (.var 1) (.int 0)), (.idx (.var 1) (.int 1)), (.idx (.var 1) (.int 2))])])] [], .ite (.cmp .Eq (.bi .len [(.var 1)]) (.int 4)) [.ret (.tup [(.str "told"), (.callv 0 [(.idx (.var 1) (.int 0)), (.idx (.var 1) (.int 1)), (.idx (.var 1) (.int 2)), (.idx (.var 1) (.int 3))])])] [], .ret (.tup [(.str "told"), (.callv 0 [(.idx (.var 1) (.int 0)), (.idx (.var 1) (.int 1)), (.idx (.var 1) (.int 2)), (.idx (.var 1) (.int 3)), (.idx (.var 1) (.int 4))])])]
theorem res_run (k f : Nat) {v : MV} {r : R MV} (h : (T k).call f [v] μ = r) (hr : resK r ≠ .no) : (T (k + 1)).call 35 [.fn f, .tup [v]] μ = resK r := by
  rw [run35]
  have hb : evB (T k) tryB [some (.fn f), some (.tup [v]), none] μ = (r.bind fun v μ => .ok (.tup [.str "told", v]) μ).stm [some (.fn f), some (.tup [v]), none] fun v μ => .ok (.ret v) μ := by
    have hl : ∀ a, biM μ .len [.tup [a]] = .ok (.int 1) μ := fun _ => rfl
    simp [hl, idxM, ixM, h]
    cases r <;> rfl
  have hd : evB (T k) d35.body [some (.fn f), some (.tup [v]), none] μ = (match resK r with
    | .ok v ν => .ok (.ret v) ν
    | .exc x ν => .exc x [some (.fn f), some (.tup [v]), none] ν
    | _ => .no) := by
    have e0 : d35.body = [.try2 tryB 1 none [.ret (.tup [(.str "malformed"), .non])] 2 (some 2) [.ret (.tup [(.str "refused"), (.xfld 2 "reason")])]] := rfl
    rw [e0, B_cons, evS, hb]
    cases r with
    | ok v ν => rfl
    | no => exact absurd rfl hr
    | exc x ν =>
      obtain ⟨c, vs⟩ := x
      simp only [resK] at hr ⊢
      by_cases h1 : c = 1
      · subst h1
        rw [if_pos rfl]
        have ix1 : isX (T k).P ⟨1, vs⟩ 1 = some true := by rw [TP]; rfl
        simp only [bind_exc, stm_exc, ix1, suite, B_cons, B_nil, S_ret, E_tup, Es_cons, Es_nil, E_str, E_non, bind_ok', newT2, stm_ok', go_ret]
        rfl
      · rw [if_neg h1] at hr ⊢
        by_cases h3 : c = 3
        · subst h3
          rw [if_pos rfl]
          have ix1 : isX (T k).P ⟨3, vs⟩ 1 = some false := by rw [TP]; rfl
          have ix2 : isX (T k).P ⟨3, vs⟩ 2 = some false := by rw [TP]; rfl
          simp only [bind_exc, stm_exc, ix1, ix2, go_exc]
        · rw [if_neg h3] at hr
          exact absurd rfl hr
  simp only [runD, fullArgs]
  have e4 : slots d35 ([MV.fn f, .tup [v]] ++ List.drop (d35.dfl.length - (d35.np - [MV.fn f, .tup [v]].length)) d35.dfl) = [some (.fn f), some (.tup [v]), none] := rfl
  rw [e4, hd]
  cases hq : resK r with
  | ok v ν => rfl
  | no => exact absurd hq hr
  | exc x ν => rfl
/-- _law_read -/
def readK : R MV → R MV
  | .ok v ν => .ok (.tup [toldS, v]) ν
  | .exc x ν => if x.c = 1 then .ok (.tup [.str "malformed", .non]) ν else match x.vs with
    | [z] => if x.c = 3 then .ok (.tup [.str "text", z]) ν else .no
    | _ => .no
  | .no => .no
theorem read_run (k f : Nat) {v : MV} {r : R MV} (h : (T k).call f [v] μ = r) (hr : readK r ≠ .no) : (T (k + 2)).call 38 [.fn f, v] μ = readK r := by
  rw [run38]
  have hres : resK r ≠ .no := fun z => by
    cases r with
    | ok v ν => cases z
    | no => exact hr rfl
    | exc x ν =>
      simp only [resK, readK] at z hr
      split at z
      · cases z
      · rename_i h1
        rw [if_neg h1] at hr
        split at z
        · cases z
        · rename_i h3
          apply hr
          split
          · rw [if_neg h3]
          · rfl
  have hc := res_run k f h hres
  have hd : evB (T (k + 1)) d38.body [some (.fn f), some v, none] μ = (match readK r with
    | .ok v ν => .ok (.ret v) ν
    | _ => .no) := by
    have e0 : d38.body = [.try1 [.ret (.call 35 [(.var 0), (.tup [(.var 1)])])] 3 (some 2) [.ret (.tup [(.str "text"), (.xfld 2 "at")])]] := rfl
    have eb : evB (T (k + 1)) [.ret (.call 35 [(.var 0), (.tup [(.var 1)])])] [some (.fn f), some v, none] μ = (resK r).stm [some (.fn f), some v, none] fun v μ => .ok (.ret v) μ := by
      have t1 : newT [v] μ = .ok (.tup [v]) μ := newT_ok' (by show 1 ≤ sizeLine; decide)
      rw [B_cons, S_ret, E_call]
      simp only [Es_cons, Es_nil, E_var0, E_varS, E_tup, bind_ok', t1, hc]
      cases resK r <;> rfl
    rw [e0, B_cons, evS, eb]
    cases r with
    | ok v ν => rfl
    | no => exact absurd rfl hr
    | exc x ν =>
      obtain ⟨c, vs⟩ := x
      simp only [resK, readK] at hres hr ⊢
      by_cases h1 : c = 1
      · rw [if_pos h1]
        rw [if_pos h1]
        rfl
      · rw [if_neg h1] at hr hres ⊢
        rw [if_neg h1]
        rcases vs with _ | ⟨z, _ | ⟨z2, vs⟩⟩
        · exact absurd rfl hr
        · by_cases h3 : c = 3
          · subst h3
            simp only [if_true]
            have ix1 : isX (T (k + 1)).P ⟨3, [z]⟩ 3 = some true := by rw [TP]; rfl
            have ht : (T (k + 1)).P.clss[3]? = some { fields := ["at"], init := none, meths := [], up := [3, 0], exc := true } := by rw [TP]; rfl
            have hx : evE (T (k + 1)) (.xfld 2 "at") [some (.fn f), some v, some (.exn 3 [z])] ν = .ok z ν := by
              simp only [evE, List.getElem?_cons_succ, List.getElem?_cons_zero, ht]
              rfl
            simp only [stm_exc, ix1, suite, List.length_cons, List.length_nil, List.set_cons_succ, List.set_cons_zero, B_cons, B_nil, S_ret, E_tup, Es_cons, Es_nil, E_str, bind_ok', hx, newT2, stm_ok', go_ret]
            rfl
          · simp only [h3, if_false] at hr
            exact absurd rfl hr
        · exact absurd rfl hr
  simp only [runD, fullArgs]
  have e4 : slots d38 ([MV.fn f, v] ++ List.drop (d38.dfl.length - (d38.np - [MV.fn f, v].length)) d38.dfl) = [some (.fn f), some v, none] := rfl
  rw [e4, hd]
  cases hq : readK r with
  | ok v ν => rfl
  | no => exact absurd hq hr
  | exc x ν =>
    exfalso
    cases r with
    | ok v ν => cases hq
    | no => cases hq
    | exc x ν =>
      simp only [readK] at hq
      split at hq
      · cases hq
      · split at hq
        · split at hq <;> cases hq
        · cases hq
/-! ### read_ratios -/
theorem parts_is {p : Str} : Txt.split p "," = parts p := by
  refine map_tl_inj ?_
  have h := split_spl p "," (by decide +kernel) (kind_ok (by decide +kernel))
  have e : tl ("," : Str) = [44] := by decide +kernel
  rw [e] at h
  unfold parts
  rw [h, List.map_map]
  have : (tl ∘ st) = id := rfl
  rw [this, List.map_id]
def val (w : Str) : Option Rat := (rd w).getD none
theorem rrs_run (k : Nat) (hz : p.length ≤ 900) (ho : sOk p = true) (hne : p ≠ "-") (hall : ∀ w ∈ parts p, w.length ≤ 1000 ∧ (rd w).isSome = true) : ∃ ν, Grow [] μ ν ∧ (T (k + 5)).call 28 [.str p] μ = if (parts p).all (fun w => (val w).isSome) then .ok (.tup ((parts p).filterMap fun w => (val w).map fun q => oR q)) ν else .exc xN ν := by
  rw [run28]
  have hlen : (parts p).length ≤ 1000 := by
    unfold parts
    rw [List.length_map]
    have := spl_len [44] (tl p) []
    have h2 := len_tl p
    omega
  have hm : mthM μ .split (.str p) [.str ","] = .ok (.ref μ.length) (μ ++ [.lst ((parts p).map .str)]) := by
    simp only [mthM]
    rw [if_pos ⟨by decide +kernel, by rw [sl]; omega⟩, parts_is]
    exact newL_ok' (by rw [sl, List.length_map]; omega)
  have e1 : evE (T (k + 4)) (.mth .split (.var 0) [(.str ",")]) [some (.str p), none] μ = .ok (.ref μ.length) (μ ++ [.lst ((parts p).map .str)]) := by
    simp only [E_mth, E_var0, bind_ok', show mthTy μ .split (.str p) = true from rfl, if_true, Es_cons, Es_nil, E_str, hm]
  obtain ⟨ν, g, hx⟩ := compX_run (T := T (k + 4)) (σ := [some (.str p), none]) (μ := μ) (elt := .call 27 [(.var 1)]) (tg := .var 1) (it := .mth .split (.var 0) [(.str ",")]) (own := [1]) (J := .ref μ.length) (xs := (parts p).map .str)
    (fun x => match x with | .str w => (val w).map fun q => oR q | _ => none) xN (by rw [Tn, List.length_map]; omega) (by rw [sl, List.length_map]; omega) e1 lstAt_new fun x μ2 hm gr => by
      obtain ⟨w, hw, rfl⟩ := List.mem_map.mp hm
      obtain ⟨h1, h2⟩ := hall w hw
      obtain ⟨r, hr⟩ := Option.isSome_iff_exists.mp h2
      obtain ⟨μ3, g3, he⟩ := rd_run (μ := μ2) k h1 hr
      refine ⟨_, by simp only [T_var]; rfl, μ3, g3, ?_⟩
      simp only [wipe_cons, wipe_nil, List.set_cons_zero, List.set_cons_succ, E_call, Es_cons, Es_nil, E_var0, E_varS, bind_ok', he]
      unfold val
      rw [hr]
      cases r <;> rfl
  have ty : tysM prog μ (.str p) [.str] = some true := rfl
  have gg : Grow [] μ ν := (Grow.app _ _ _).trans g
  have all_eq : ((parts p).map MV.str).all (fun x => ((fun x => match x with | .str w => (val w).map fun q => oR q | _ => none) x : Option MV).isSome) = (parts p).all fun w => (val w).isSome := by
    rw [List.all_map]
    congr 1
    funext w
    show ((val w).map fun q => oR q).isSome = _
    simp
  have fm_eq : ((parts p).map MV.str).filterMap (fun x => match x with | .str w => (val w).map fun q => oR q | _ => none) = (parts p).filterMap fun w => (val w).map fun q => oR q := by
    rw [List.filterMap_map]
    rfl
  have c0 : cmpM μ .Eq (.str p) (.str "-") = some (decide (p = "-")) := cmp_eqs (sok ho) (by decide +kernel)
  simp only [runD, fullArgs]
  have e4 : slots d28 ([MV.str p] ++ List.drop (d28.dfl.length - (d28.np - [MV.str p].length)) d28.dfl) = [some (.str p), none] := rfl
  rw [e4]
  have body : evB (T (k + 4)) d28.body [some (.str p), none] μ = (evE (T (k + 4)) (.bi .tuple [(.compX (.call 27 [(.var 1)]) (.var 1) (.mth .split (.var 0) [(.str ",")]) (.bl true) [1])]) [some (.str p), none] μ).stm [some (.str p), none] fun v μ => .ok (.ret v) μ := by
    rw [show d28.body = [.ite (.not (.isin (.var 0) [.str])) [.raise 3 [(.int 0)]] [], .ite (.ocmp .Eq (.var 0) (.str "-")) [.ret (.tup [])] [], .ret (.bi .tuple [(.compX (.call 27 [(.var 1)]) (.var 1) (.mth .split (.var 0) [(.str ",")]) (.bl true) [1])])] from rfl]
    rw [B_cons, S_ite]
    simp only [E_not, E_isin, E_var0, bind_ok', TP, ty, opt_some, tru_bl, Bool.not_true, stm_ok', Bool.false_eq_true, if_false]
    rw [B_nil, go_next, B_cons, S_ite]
    simp only [E_ocmp, E_var0, E_str, bind_ok', cmpT_str, c0, hne, decide_false, opt_some, tru_bl, stm_ok', Bool.false_eq_true, if_false]
    rw [B_nil, go_next, B_cons, S_ret]
    cases evE (T (k + 4)) (.bi .tuple [(.compX (.call 27 [(.var 1)]) (.var 1) (.mth .split (.var 0) [(.str ",")]) (.bl true) [1])]) [some (.str p), none] μ <;> rfl
  rw [body, E_bi]
  simp only [Es_cons, Es_nil, hx, all_eq, fm_eq]
  by_cases hq : (parts p).all (fun w => (val w).isSome) = true
  · refine ⟨ν ++ [.lst ((parts p).filterMap fun w => (val w).map fun q => oR q)], gg.trans (Grow.app _ _ _), ?_⟩
    simp only [hq, if_true, bind_ok']
    have : biM (ν ++ [.lst ((parts p).filterMap fun w => (val w).map fun q => oR q)]) .tuple [.ref ν.length] = .ok (.tup ((parts p).filterMap fun w => (val w).map fun q => oR q)) (ν ++ [.lst ((parts p).filterMap fun w => (val w).map fun q => oR q)]) := by
      simp only [biM, lstAt_new]
    rw [this]
    rfl
  · refine ⟨ν, gg, ?_⟩
    simp only [hq, Bool.false_eq_true, if_false, bind_exc, stm_exc]
    rfl
end
end Mch.k02

/-! ## k02: rows of Ratios -/
namespace Mch.k02
open PySem L2 TL Mch
def Sm (qs : List Rat) : Rat := qs.foldl (· + ·) 0
def Pr (qs : List Rat) : Rat := qs.foldl (· * ·) 1
abbrev oRs (qs : List Rat) : List MV := qs.map fun q => oR q
theorem take_one {α : Type} {l : List α} {i : Nat} {x : α} (h : l[i]? = some x) : l.take (i + 1) = l.take i ++ [x] := by
  rw [List.take_succ, h]
  rfl
theorem Sm_take {qs : List Rat} {i : Nat} {q : Rat} (h : qs[i]? = some q) : Sm (qs.take (i + 1)) = Sm (qs.take i) + q := by
  unfold Sm
  rw [take_one h, List.foldl_append]
  rfl
theorem Pr_take {qs : List Rat} {i : Nat} {q : Rat} (h : qs[i]? = some q) : Pr (qs.take (i + 1)) = Pr (qs.take i) * q := by
  unfold Pr
  rw [take_one h, List.foldl_append]
  rfl
theorem Sm_bd {B : Nat} {qs : List Rat} (h : ∀ q ∈ qs, Bd B q) : ∀ i ≤ qs.length, Bd (1 + (B + 1) * i) (Sm (qs.take i))
  | 0, _ => by
    rw [List.take_zero, Nat.mul_zero]
    exact ⟨by decide, by decide⟩
  | i + 1, hi => by
    have e : qs[i]? = some qs[i] := List.getElem?_eq_getElem (by omega)
    rw [Sm_take e]
    refine ((Sm_bd h i (by omega)).add (h _ (List.getElem_mem (by omega)))).mono ?_
    rw [Nat.mul_succ]
    omega
theorem Pr_bd {B : Nat} {qs : List Rat} (h : ∀ q ∈ qs, Bd B q) : ∀ i ≤ qs.length, Bd (1 + B * i) (Pr (qs.take i))
  | 0, _ => by
    rw [List.take_zero, Nat.mul_zero]
    exact ⟨by decide, by decide⟩
  | i + 1, hi => by
    have e : qs[i]? = some qs[i] := List.getElem?_eq_getElem (by omega)
    rw [Pr_take e]
    refine ((Pr_bd h i (by omega)).mul (h _ (List.getElem_mem (by omega)))).mono ?_
    rw [Nat.mul_succ]
    omega
theorem small2 {a : Int} {k : Nat} (h : a.natAbs < 2 ^ 30) (hk : 30 ≤ k) : a.natAbs < 2 ^ k := Nat.lt_of_lt_of_le h (Nat.pow_le_pow_right (by decide) hk)
section
variable {ν μ : Mem} {σ : Env} {v : MV} {qs rs : List Rat} {B : Nat}
theorem mkz (k : Nat) : (T (k + 2)).make 4 [.int 0] μ = .ok (oR (0 : Rat)) μ := mk_int k (a := 0) (small2 (by decide) (by decide))
theorem mko (k : Nat) : (T (k + 2)).make 4 [.int 1] μ = .ok (oR (1 : Rat)) μ := mk_int k (a := 1) (small2 (by decide) (by decide))
theorem oRs_at {i : Nat} {x : MV} (h : (oRs qs)[i]? = some x) : ∃ q, qs[i]? = some q ∧ x = oR q := by
  rw [List.getElem?_map] at h
  obtain ⟨q, h1, h2⟩ := Option.map_eq_some_iff.mp h
  exact ⟨q, h1, h2.symm⟩
theorem sum_ok (k : Nat) (hi : items μ v = some (oRs qs)) (hb : ∀ q ∈ qs, Bd B q) (hn : qs.length ≤ 10) (hB : B ≤ 100) : (T (k + 4)).call 23 [v] μ = .ok (oR (Sm qs)) μ := by
  rw [run23]
  refine R.To.is (runD_to rfl rfl ?_)
  have hs : slots d23 [v] = [some v, none, none] := rfl
  rw [hs]
  simp only [d23, B_cons, S_asg, E_mk, Es_cons, Es_nil, E_int, bind_ok', mkz (k + 1), stm_ok', A_var, calm_ok', List.set_cons_zero, List.set_cons_succ, go_next]
  refine RS.To.go ?_
  simp only [S_for, E_var0, stm_ok', itM_items hi]
  refine forL_to (xs := oRs qs) (I := fun i σ ν => (∃ o, σ = [some v, some (oR (Sm (qs.take i))), o]) ∧ ν = μ) (fun i σ ν hI => by rw [hI.2]; exact nth_items hi i) (fun i x σ ν hx hI => ?_) (fun σ ν hI => ?_) _ 0 _ _ (Nat.zero_le _) (by rw [Tn, List.length_map]; omega) ⟨⟨none, rfl⟩, rfl⟩
  · obtain ⟨⟨o, rfl⟩, rfl⟩ := hI
    obtain ⟨q, hq, rfl⟩ := oRs_at hx
    have hlt := (List.getElem?_eq_some_iff.mp hq).1
    refine ⟨_, by simp only [T_var, List.set_cons_zero, List.set_cons_succ]; rfl, ?_⟩
    have b1 := Sm_bd hb i (by omega)
    have b2 := hb q (List.mem_of_getElem? hq)
    have hz : (B + 1) * i ≤ 101 * 10 := Nat.mul_le_mul (by omega) (by omega)
    have he : evE (T (k + 3)) (.obin .Add (.var 1) (.var 2)) [some v, some (oR (Sm (qs.take i))), some (oR q)] ν = .ok (oR (Sm (qs.take (i + 1)))) ν := by
      rw [Sm_take hq]
      exact e_add (j := k) (E_var rfl) (E_var rfl) b1 b2 (by omega)
    simp only [B_cons, B_nil, S_asg, he, stm_ok', A_var, calm_ok', go_next, List.set_cons_zero, List.set_cons_succ, STo_ok, turnT_next]
    exact ⟨⟨_, rfl⟩, by trivial⟩
  · obtain ⟨⟨o, rfl⟩, rfl⟩ := hI
    simp only [goT_next, B_cons, B_nil, S_ret, E_var0, E_varS, stm_ok', go_ret, STo_ok, retT_ret, List.length_map, List.take_length]
    exact ⟨by trivial, by trivial⟩
theorem prod_ok (k : Nat) (hi : items μ v = some (oRs qs)) (hb : ∀ q ∈ qs, Bd B q) (hn : qs.length ≤ 10) (hB : B ≤ 100) : (T (k + 4)).call 24 [v] μ = .ok (oR (Pr qs)) μ := by
  rw [run24]
  refine R.To.is (runD_to rfl rfl ?_)
  have hs : slots d24 [v] = [some v, none, none] := rfl
  rw [hs]
  simp only [d24, B_cons, S_asg, E_mk, Es_cons, Es_nil, E_int, bind_ok', mko (k + 1), stm_ok', A_var, calm_ok', List.set_cons_zero, List.set_cons_succ, go_next]
  refine RS.To.go ?_
  simp only [S_for, E_var0, stm_ok', itM_items hi]
  refine forL_to (xs := oRs qs) (I := fun i σ ν => (∃ o, σ = [some v, some (oR (Pr (qs.take i))), o]) ∧ ν = μ) (fun i σ ν hI => by rw [hI.2]; exact nth_items hi i) (fun i x σ ν hx hI => ?_) (fun σ ν hI => ?_) _ 0 _ _ (Nat.zero_le _) (by rw [Tn, List.length_map]; omega) ⟨⟨none, rfl⟩, rfl⟩
  · obtain ⟨⟨o, rfl⟩, rfl⟩ := hI
    obtain ⟨q, hq, rfl⟩ := oRs_at hx
    have hlt := (List.getElem?_eq_some_iff.mp hq).1
    refine ⟨_, by simp only [T_var, List.set_cons_zero, List.set_cons_succ]; rfl, ?_⟩
    have b1 := Pr_bd hb i (by omega)
    have b2 := hb q (List.mem_of_getElem? hq)
    have hz : B * i ≤ 100 * 10 := Nat.mul_le_mul (by omega) (by omega)
    have he : evE (T (k + 3)) (.obin .Mult (.var 1) (.var 2)) [some v, some (oR (Pr (qs.take i))), some (oR q)] ν = .ok (oR (Pr (qs.take (i + 1)))) ν := by
      rw [Pr_take hq]
      exact e_mul (j := k) (E_var rfl) (E_var rfl) b1 b2 (by omega)
    simp only [B_cons, B_nil, S_asg, he, stm_ok', A_var, calm_ok', go_next, List.set_cons_zero, List.set_cons_succ, STo_ok, turnT_next]
    exact ⟨⟨_, rfl⟩, by trivial⟩
  · obtain ⟨⟨o, rfl⟩, rfl⟩ := hI
    simp only [goT_next, B_cons, B_nil, S_ret, E_var0, E_varS, stm_ok', go_ret, STo_ok, retT_ret, List.length_map, List.take_length]
    exact ⟨by trivial, by trivial⟩
/-- pairs -/
def prs (qs rs : List Rat) : List MV := (qs.zip rs).map fun p => .tup [oR p.1, oR p.2]
theorem zip_items : items μ (.zp (.tup (oRs qs)) (.tup (oRs rs))) = some (prs qs rs) := by
  simp only [items, prs, Option.some.injEq]
  rw [List.zip_map, List.map_map]
  rfl
def Ml (qs rs : List Rat) : List Rat := (qs.zip rs).map fun p => p.1 * p.2
theorem Ml_bd {qs rs : List Rat} (h1 : ∀ q ∈ qs, Bd B q) (h2 : ∀ q ∈ rs, Bd B q) : ∀ q ∈ Ml qs rs, Bd (B + B) q := fun q hq => by
  obtain ⟨p, hp, rfl⟩ := List.mem_map.mp hq
  obtain ⟨m1, m2⟩ := List.of_mem_zip hp
  exact (h1 _ m1).mul (h2 _ m2)
theorem dot_ok (k : Nat) (hb : ∀ q ∈ qs, Bd B q) (hb2 : ∀ q ∈ rs, Bd B q) (hn : qs.length ≤ 10) (hB : B ≤ 50) : ∃ ν, Grow [] μ ν ∧ (T (k + 5)).call 25 [.tup (oRs qs), .tup (oRs rs)] μ = .ok (oR (Sm (Ml qs rs))) ν := by
  rw [run25]
  have hlz : (qs.zip rs).length ≤ 10 := by rw [List.length_zip]; omega
  have hc : evE (T (k + 4)) (.comp (.obin .Mult (.var 2) (.var 3)) (.tup [(.var 2), (.var 3)]) (.zip (.var 0) (.var 1)) (.bl true) [2, 3]) [some (.tup (oRs qs)), some (.tup (oRs rs)), none, none] μ = .ok (.ref μ.length) (μ ++ [.lst (oRs (Ml qs rs))]) := by
    have hz : evE (T (k + 4)) (.zip (.var 0) (.var 1)) [some (.tup (oRs qs)), some (.tup (oRs rs)), none, none] μ = .ok (.zp (.tup (oRs qs)) (.tup (oRs rs))) μ := by
      simp only [E_zip, E_var0, E_varS, bind_ok', zipM]
    have hf : oRs (Ml qs rs) = (prs qs rs).filterMap fun x => match x with | .tup [.obj 4 [.int a, .int b], .obj 4 [.int c, .int e]] => some (oR (Rat.divInt a b * Rat.divInt c e)) | _ => none := by
      unfold prs Ml oRs
      rw [List.filterMap_map, List.map_map, ← fm_some]
      congr 1
      funext p
      show some _ = some _
      rw [Rat.num_divInt_den, Rat.num_divInt_den]
      rfl
    rw [hf]
    refine comp_pure (J := .zp (.tup (oRs qs)) (.tup (oRs rs))) (xs := prs qs rs) _ (by rw [Tn]; unfold prs; rw [List.length_map]; omega) (by rw [sl]; unfold prs; rw [List.length_map]; omega) hz zip_items fun x hm => ?_
    unfold prs at hm
    obtain ⟨p, hp, rfl⟩ := List.mem_map.mp hm
    obtain ⟨m1, m2⟩ := List.of_mem_zip hp
    refine ⟨[some (.tup (oRs qs)), some (.tup (oRs rs)), some (oR p.1), some (oR p.2)], by simp only [bindT, bindT.go, wipe_cons, wipe_nil, Option.bind_some, List.length_cons, List.length_nil, if_true, List.set_cons_zero, List.set_cons_succ], ?_⟩
    have he : evE (T (k + 4)) (.obin .Mult (.var 2) (.var 3)) [some (.tup (oRs qs)), some (.tup (oRs rs)), some (oR p.1), some (oR p.2)] μ = .ok (oR (p.1 * p.2)) μ := e_mul (j := k + 1) (E_var rfl) (E_var rfl) (hb _ m1) (hb2 _ m2) (by omega)
    unfold turnE
    simp only [E_bl, bind_ok', tru_bl, if_true, he]
    rw [Rat.num_divInt_den, Rat.num_divInt_den]
  have hit : items (μ ++ [Cell.lst (oRs (Ml qs rs))]) (.ref μ.length) = some (oRs (Ml qs rs)) := by
    show lstAt _ _ = _
    exact lstAt_new
  have hs := sum_ok k hit (Ml_bd hb hb2) (by unfold Ml; rw [List.length_map]; omega) (by omega)
  refine ⟨μ ++ [.lst (oRs (Ml qs rs))], Grow.app _ _ _, ?_⟩
  simp only [runD, fullArgs]
  have e4 : slots d25 ([MV.tup (oRs qs), .tup (oRs rs)] ++ List.drop (d25.dfl.length - (d25.np - [MV.tup (oRs qs), .tup (oRs rs)].length)) d25.dfl) = [some (.tup (oRs qs)), some (.tup (oRs rs)), none, none] := rfl
  rw [e4]
  simp only [d25, B_cons, B_nil, S_ret, E_call, Es_cons, Es_nil, hc, bind_ok', hs, stm_ok', go_ret]
  rfl
end
end Mch.k02

/-! ## k02: the rows and the bent texts, plainly -/
namespace Mch.k02
open PySem L2 TL Mch
/-- a Ratio that is drawn -/
def InQ (q : Rat) : Prop := ∃ y z : Nat, y < 13 ∧ z < 3 ∧ q = Rat.divInt ((y : Int) - 6) (1 + (z : Int))
theorem InQ.bd {q : Rat} (h : InQ q) : Bd 30 q := by
  obtain ⟨y, z, h1, h2, rfl⟩ := h
  exact bd_of (by omega) (by omega) (by omega)
theorem InQ.own {q : Rat} (h : InQ q) : rTxt q ∈ owns := by
  obtain ⟨y, z, h1, h2, rfl⟩ := h
  unfold owns
  exact List.mem_flatMap.mpr ⟨y, List.mem_range.mpr h1, List.mem_map.mpr ⟨z, List.mem_range.mpr h2, rfl⟩⟩
theorem chk_back : ((List.range 13).all fun (y : Nat) => (List.range 3).all fun (z : Nat) => decide (rd (rTxt (Rat.divInt ((y : Int) - 6) (1 + (z : Int)))) = some (some (Rat.divInt ((y : Int) - 6) (1 + (z : Int)))))) = true := by decide +kernel
theorem InQ.back {q : Rat} (h : InQ q) : rd (rTxt q) = some (some q) := by
  obtain ⟨y, z, h1, h2, rfl⟩ := h
  have := List.all_eq_true.mp chk_back y (List.mem_range.mpr h1)
  exact of_decide_eq_true (List.all_eq_true.mp this z (List.mem_range.mpr h2))
theorem InQ.text {q : Rat} (h : InQ q) : (rTxt q).length ≤ 5 ∧ rTxt q ≠ "" ∧ 44 ∉ tl (rTxt q) ∧ ∀ b ∈ bents (rTxt q), both b = true := by
  have := List.all_eq_true.mp chk_all _ h.own
  unfold ok1 at this
  simp only [Bool.and_eq_true, decide_eq_true_eq, Bool.not_eq_true', decide_eq_false_iff_not, List.all_eq_true] at this
  exact this
def T401 : Str := st (List.replicate 401 49)
theorem chk_401 : both T401 = true := by decide +kernel
theorem st_len (l : List Nat) : (st l).length = l.length := by simp [st, Str.length]
def bentL (own : Str) (i m : Nat) : List Str := [own, insT own i m, delT own i, ("0" : Str) ++ own, own ++ ("/1" : Str), ("-" : Str) ++ own, "2/4", "1/0", "", "-", "0/5", T401]
theorem bentL_ok {q : Rat} (h : InQ q) {i m : Nat} (hi : i ≤ (rTxt q).length) (hm : m ∈ marks) : ∀ b ∈ bentL (rTxt q) i m, both b = true ∧ b.length ≤ 401 := by
  obtain ⟨h1, _, _, h4⟩ := h.text
  have hf := List.all_eq_true.mp chk_fix
  have e0 : ("0" : Str).length = 1 := by decide +kernel
  have e1 : ("/1" : Str).length = 2 := by decide +kernel
  have e2 : ("-" : Str).length = 1 := by decide +kernel
  have hl : (tl (rTxt q)).length = (rTxt q).length := (len_tl _).symm
  have mI : insT (rTxt q) i m ∈ bents (rTxt q) := List.mem_append_left _ (List.mem_flatMap.mpr ⟨i, List.mem_range.mpr (by omega), List.mem_cons_of_mem _ (List.mem_map.mpr ⟨m, hm, rfl⟩)⟩)
  have mD : delT (rTxt q) i ∈ bents (rTxt q) := List.mem_append_left _ (List.mem_flatMap.mpr ⟨i, List.mem_range.mpr (by omega), List.mem_cons_self ..⟩)
  intro b hb
  simp only [bentL, List.mem_cons, List.not_mem_nil, or_false] at hb
  rcases hb with rfl | rfl | rfl | rfl | rfl | rfl | rfl | rfl | rfl | rfl | rfl | rfl
  · exact ⟨h4 _ (List.mem_append_right _ (by simp)), by omega⟩
  · refine ⟨h4 _ mI, ?_⟩
    unfold insT
    rw [app_len, app_len, st_len, st_len, st_len, List.length_take, List.length_drop]
    simp only [List.length_cons, List.length_nil]
    omega
  · refine ⟨h4 _ mD, ?_⟩
    unfold delT
    rw [app_len, st_len, st_len, List.length_take, List.length_drop]
    omega
  · exact ⟨h4 _ (List.mem_append_right _ (by simp)), by rw [app_len]; omega⟩
  · exact ⟨h4 _ (List.mem_append_right _ (by simp)), by rw [app_len]; omega⟩
  · exact ⟨h4 _ (List.mem_append_right _ (by simp)), by rw [app_len]; omega⟩
  · exact ⟨hf _ (by simp [fixed]), by decide +kernel⟩
  · exact ⟨hf _ (by simp [fixed]), by decide +kernel⟩
  · exact ⟨hf _ (by simp [fixed]), by decide +kernel⟩
  · exact ⟨hf _ (by simp [fixed]), by decide +kernel⟩
  · exact ⟨hf _ (by simp [fixed]), by decide +kernel⟩
  · exact ⟨chk_401, by decide +kernel⟩
/-- what chk says -/
theorem chk_is {w : Str} (h : chk w = true) : w.length ≤ 1000 ∧ ∃ r, rd w = some r ∧ isT w = some r.isSome ∧ ∀ q, r = some q → rTxt q = w ∧ Bd 30 q := by
  unfold chk at h
  simp only [Bool.and_eq_true, decide_eq_true_eq] at h
  obtain ⟨h1, h2⟩ := h
  refine ⟨h1, ?_⟩
  split at h2
  · rename_i q e1 e2
    simp only [Bool.and_eq_true, decide_eq_true_eq] at h2
    exact ⟨some q, e2, e1, fun q' e => by cases e; exact ⟨h2.1, h2.2⟩⟩
  · rename_i e1 e2
    exact ⟨none, e2, e1, fun q' e => by cases e⟩
  · cases h2
theorem isT_ok {w : Str} {b : Bool} (h : isT w = some b) : sOk w = true := by
  by_cases h0 : sOk w = true
  · exact h0
  · exfalso
    unfold isT at h
    simp [h0] at h
theorem chk_sok {w : Str} (h : chk w = true) : sOk w = true := by
  obtain ⟨_, r, _, h2, _⟩ := chk_is h
  exact isT_ok h2
theorem both_is {b : Str} (h : both b = true) : chk b = true ∧ ∀ w ∈ parts b, chk w = true := by
  unfold both at h
  simp only [Bool.and_eq_true, List.all_eq_true] at h
  exact h
theorem chk_own {q : Rat} (h : InQ q) : chk (rTxt q) = true := (both_is (h.text.2.2.2 _ (List.mem_append_right _ (by simp)))).1
/-! ### the joined text -/
def txt (qs : List Rat) : Str := Txt.join "," (qs.map rTxt)
theorem e44 : tl ("," : Str) = [44] := by decide +kernel
theorem txt_tl (qs : List Rat) : tl (txt qs) = joinL [44] ((qs.map rTxt).map tl) := by
  unfold txt
  rw [join_eq, tl_join, e44]
section
variable {qs : List Rat} {q : Rat} {b : Str}
theorem txt_parts (h : ∀ q ∈ qs, InQ q) (hn : qs ≠ []) : parts (txt qs) = qs.map rTxt := by
  rw [← parts_is]
  unfold txt
  refine split_join e44 (by decide +kernel) (by simpa using hn) fun p hp => ?_
  obtain ⟨q, hq, rfl⟩ := List.mem_map.mp hp
  exact (h q hq).text.2.2.1
theorem joinL_len : ∀ {ps : List (List Nat)}, (∀ p ∈ ps, p.length ≤ 5) → (joinL [44] ps).length ≤ 6 * ps.length
  | [], _ => by simp [joinL]
  | [p], h => by
    have := h p (by simp)
    show p.length ≤ 6 * 1
    omega
  | p :: q :: r, h => by
    have h1 := h p (by simp)
    have h2 := joinL_len (ps := q :: r) fun p hp => h p (List.mem_cons_of_mem _ hp)
    show (p ++ ([44] ++ joinL [44] (q :: r))).length ≤ _
    simp only [List.length_append, List.length_cons, List.length_nil] at h2 ⊢
    omega
theorem joinL_mem {c : Nat} : ∀ {ps : List (List Nat)}, c ∈ joinL [44] ps → c = 44 ∨ ∃ p ∈ ps, c ∈ p
  | [], h => by simp [joinL] at h
  | [p], h => .inr ⟨p, by simp, h⟩
  | p :: q :: r, h => by
    have h : c ∈ p ++ ([44] ++ joinL [44] (q :: r)) := h
    rcases List.mem_append.mp h with h | h
    · exact .inr ⟨p, by simp, h⟩
    · rcases List.mem_append.mp h with h | h
      · exact .inl (by simpa using h)
      · rcases joinL_mem h with h | ⟨p', h1, h2⟩
        · exact .inl h
        · exact .inr ⟨p', List.mem_cons_of_mem _ h1, h2⟩
theorem txt_len (h : ∀ q ∈ qs, InQ q) (hn : qs.length ≤ 5) : (txt qs).length ≤ 30 := by
  rw [len_tl, txt_tl]
  have := joinL_len (ps := (qs.map rTxt).map tl) fun p hp => by
    obtain ⟨w, hw, rfl⟩ := List.mem_map.mp hp
    obtain ⟨q, hq, rfl⟩ := List.mem_map.mp hw
    rw [← len_tl]
    exact (h q hq).text.1
  simp only [List.length_map] at this
  omega
theorem ok_iff {w : Str} : sOk w = true ↔ ∀ c ∈ tl w, c < 1114112 := by
  show w.cps.all (fun x => decide (x < 1114112)) = true ↔ _
  rw [Array.all_eq_true']
  unfold tl
  simp
theorem txt_ok : sOk (txt qs) = true := by
  rw [ok_iff, txt_tl]
  intro c hc
  rcases joinL_mem hc with rfl | ⟨p, h1, h2⟩
  · decide
  · obtain ⟨w, hw, rfl⟩ := List.mem_map.mp h1
    obtain ⟨q, hq, rfl⟩ := List.mem_map.mp hw
    exact ok_iff.mp (rTxt_ok q) c h2
theorem txt_dash (h : ∀ q ∈ qs, InQ q) (hn : qs ≠ []) : txt qs ≠ "-" := fun e => by
  have h1 := txt_parts h hn
  rw [e] at h1
  have h2 : parts "-" = [("-" : Str)] := by decide +kernel
  rw [h2] at h1
  obtain ⟨q, r, rfl⟩ := List.exists_cons_of_ne_nil hn
  have h3 : rTxt q = "-" := by
    rw [List.map_cons] at h1
    exact (List.cons.inj h1).1.symm
  have h4 := (h q (by simp)).back
  rw [h3] at h4
  have h5 : rd "-" = some none := by decide +kernel
  rw [h5] at h4
  cases h4
theorem spl_app (y : List Nat) : ∀ (x acc : List Nat), spl [44] 0 acc (x ++ 44 :: y) = spl [44] 0 acc x ++ spl [44] 0 [] y
  | [], acc => by
    rw [spl_nil]
    have := spl_part1 (s := 44) (S := []) (p := []) (rest := y) (acc := acc) (by simp)
    simpa using this
  | c :: x, acc => by
    by_cases hc : c = 44
    · subst hc
      have h1 := spl_part1 (s := 44) (S := []) (p := []) (rest := x ++ 44 :: y) (acc := acc) (by simp)
      have h2 := spl_part1 (s := 44) (S := []) (p := []) (rest := x) (acc := acc) (by simp)
      simp only [List.nil_append, List.append_nil, List.singleton_append] at h1 h2
      rw [List.cons_append, h1, h2, spl_app y x [], List.cons_append]
    · have hp : ∀ r, pre [44] (c :: r) = false := fun r => pre_of_head _ _ (fun z => hc z)
      have h1 : ∀ r, spl [44] 0 acc (c :: r) = spl [44] 0 (acc ++ [c]) r := fun r => by
        rw [spl]
        simp only [hp r, Bool.false_eq_true, if_false]
      rw [List.cons_append, h1, h1, spl_app y x (acc ++ [c])]
theorem parts_app (a : Str) : parts ((a ++ ("," : Str)) ++ b) = parts a ++ parts b := by
  unfold parts
  rw [tl_append, tl_append, e44, List.append_assoc, List.singleton_append, spl_app, List.map_append]
def lineT (qs : List Rat) (b : Str) : Str := (txt qs ++ ("," : Str)) ++ b
theorem line_parts (h : ∀ q ∈ qs, InQ q) (hn : qs ≠ []) : parts (lineT qs b) = qs.map rTxt ++ parts b := by
  unfold lineT
  rw [parts_app, txt_parts h hn]
theorem line_chk (h : ∀ q ∈ qs, InQ q) (hn : qs ≠ []) (hb : both b = true) : ∀ w ∈ parts (lineT qs b), chk w = true := by
  rw [line_parts h hn]
  intro w hw
  rcases List.mem_append.mp hw with hw | hw
  · obtain ⟨q, hq, rfl⟩ := List.mem_map.mp hw
    exact chk_own (h q hq)
  · exact (both_is hb).2 w hw
theorem line_len (h : ∀ q ∈ qs, InQ q) (hn : qs.length ≤ 5) (hb : b.length ≤ 401) : (lineT qs b).length ≤ 500 := by
  unfold lineT
  have h1 := txt_len h hn
  have h2 : ("," : Str).length = 1 := by decide +kernel
  rw [app_len, app_len]
  omega
theorem line_ok (hb : sOk b = true) : sOk (lineT qs b) = true := ok_append (ok_append txt_ok (by decide +kernel)) hb
theorem line_dash : lineT qs b ≠ "-" := fun e => by
  have h1 : tl (lineT qs b) = tl ("-" : Str) := by rw [e]
  have h2 : tl ("-" : Str) = [45] := by decide +kernel
  have h3 : 44 ∈ tl (lineT qs b) := by
    unfold lineT
    rw [tl_append, tl_append, e44]
    simp
  rw [h1, h2] at h3
  simp at h3
theorem val_chk {w : Str} (h : chk w = true) : isT w = some (val w).isSome := by
  obtain ⟨_, r, h1, h2, _⟩ := chk_is h
  unfold val
  rw [h1, h2]
  rfl
theorem val_own (h : InQ q) : val (rTxt q) = some q := by
  unfold val
  rw [h.back]
  rfl
theorem txt_vals (h : ∀ q ∈ qs, InQ q) : ((qs.map rTxt).filterMap fun w => (val w).map fun q => oR q) = oRs qs ∧ (qs.map rTxt).all (fun w => (val w).isSome) = true := by
  constructor
  · induction qs with
    | nil => rfl
    | cons q r ih =>
      rw [List.map_cons, List.filterMap_cons, val_own (h q (by simp)), ih fun q hq => h q (List.mem_cons_of_mem _ hq)]
      rfl
  · rw [List.all_map, List.all_eq_true]
    intro q hq
    simp only [Function.comp, val_own (h q hq)]
    rfl
end
end Mch.k02

/-! ## k02: ratios, rows, texts of rows, draws of rows -/
namespace Mch.k02
open PySem L2 TL Mch
section
variable {σ : Env} {ν μ : Mem} {qs rs : List Rat} {v : MV} {i a b : Nat}
theorem rng1 {z : Int} (h : -(2 ^ 62) ≤ z ∧ z < 2 ^ 62) : rngM μ [.int z] = .ok (.rng 0 z.toNat 1) μ := if_pos h
theorem mk_bad (k : Nat) {v : MV} (hv : DatM μ v) (h : isIntM v = false) : (T (k + 2)).make 4 [v] μ = .exc ⟨1, []⟩ μ := by
  rw [make4]
  have e1 := is_integer k hv
  have b1 : evB (T (k + 1)) d5.body [some (.obj 4 []), some v, some (.int 1), none] μ = .exc ⟨1, []⟩ [some (.obj 4 []), some v, some (.int 1), none] μ := by
    have f1 : evS (T (k + 1)) (.raise 1 [(.str "a number")]) [some (.obj 4 []), some v, some (.int 1), none] μ = .exc ⟨1, []⟩ [some (.obj 4 []), some v, some (.int 1), none] μ := S_raise (xs := [.str "a number"]) (by simp) (by rw [TP]; rfl)
    simp only [d5, B_cons, S_ite, E_or, E_not, E_call, Es_cons, Es_nil, E_var0, E_varS, bind_ok', e1, h, tru_bl, Bool.not_false, if_true, stm_ok', f1, B_nil, go_exc]
  simp only [runI, fullArgs]
  have e4 : slots d5 ([MV.obj 4 [], v] ++ List.drop (d5.dfl.length - (d5.np - [MV.obj 4 [], v].length)) d5.dfl) = [some (.obj 4 []), some v, some (.int 1), none] := rfl
  rw [e4, b1]
  rfl
def rz : MV → Option MV
  | .obj c vs => some (.obj c vs)
  | .int a => some (oR (a : Rat))
  | _ => none
/-- ratios -/
theorem rats_run (k : Nat) {xs : List MV} (ht : tysM prog μ v [.list, .tuple] = some true) (hi : items μ v = some xs) (hn : xs.length ≤ 100) (hx : ∀ x ∈ xs, (∃ q, x = oR q) ∨ (∃ a : Int, x = .int a ∧ a.natAbs < 2 ^ 30) ∨ (flatM x = true ∧ isIntM x = false)) : ∃ ν, Grow [] μ ν ∧ (T (k + 3)).call 22 [v] μ = if xs.all (fun x => (rz x).isSome) then .ok (.tup (xs.filterMap rz)) ν else .exc ⟨1, []⟩ ν := by
  rw [run22]
  obtain ⟨ν, g, hc⟩ := compX_run (T := T (k + 2)) (σ := [some v, none]) (μ := μ) (elt := .ite (.isin (.var 1) [.cls 4]) (.var 1) (.mk 4 [(.var 1)])) (tg := .var 1) (it := .var 0) (own := [1]) (J := v) (xs := xs) rz ⟨1, []⟩ (by rw [Tn]; omega) (by rw [sl]; omega) E_var0 hi fun x μ2 hm gr => by
    refine ⟨_, by simp only [T_var]; rfl, μ2, Grow.refl _ _, ?_⟩
    simp only [wipe_cons, wipe_nil, List.set_cons_zero, List.set_cons_succ, E_ite, E_isin, E_var0, E_varS, bind_ok', TP]
    rcases hx x hm with ⟨q, rfl⟩ | ⟨a, rfl, ha⟩ | ⟨h1, h2⟩
    · have e : tysM prog μ2 (oR q) [.cls 4] = some true := ty_rat
      simp only [e, opt_some, bind_ok', tru_bl, if_true]
      rfl
    · have e : tysM prog μ2 (.int a) [.cls 4] = some false := rfl
      simp only [e, opt_some, bind_ok', tru_bl, Bool.false_eq_true, if_false, E_mk, Es_cons, Es_nil, E_var0, E_varS, mk_int k (small2 ha (by decide))]
      rfl
    · have e : tysM prog μ2 x [.cls 4] = some false := ty_nrat (flat_dat h1)
      have hz : rz x = none := by
        cases x with
        | obj c vs => cases h1
        | int a => cases h2
        | _ => rfl
      simp only [e, opt_some, bind_ok', tru_bl, Bool.false_eq_true, if_false, E_mk, Es_cons, Es_nil, E_var0, E_varS, mk_bad k (flat_dat h1) h2, hz]
  have body : evB (T (k + 2)) d22.body [some v, none] μ = (evE (T (k + 2)) (.bi .tuple [(.compX (.ite (.isin (.var 1) [.cls 4]) (.var 1) (.mk 4 [(.var 1)])) (.var 1) (.var 0) (.bl true) [1])]) [some v, none] μ).stm [some v, none] fun v μ => .ok (.ret v) μ := by
    rw [show d22.body = [.ite (.not (.isin (.var 0) [.list, .tuple])) [.raise 1 [(.str "numbers")]] [], .ret (.bi .tuple [(.compX (.ite (.isin (.var 1) [.cls 4]) (.var 1) (.mk 4 [(.var 1)])) (.var 1) (.var 0) (.bl true) [1])])] from rfl]
    rw [B_cons, S_ite]
    simp only [E_not, E_isin, E_var0, bind_ok', TP, ht, opt_some, tru_bl, Bool.not_true, stm_ok', Bool.false_eq_true, if_false]
    rw [B_nil, go_next, B_cons, S_ret]
    cases evE (T (k + 2)) (.bi .tuple [(.compX (.ite (.isin (.var 1) [.cls 4]) (.var 1) (.mk 4 [(.var 1)])) (.var 1) (.var 0) (.bl true) [1])]) [some v, none] μ <;> rfl
  simp only [runD, fullArgs]
  have e4 : slots d22 ([v] ++ List.drop (d22.dfl.length - (d22.np - [v].length)) d22.dfl) = [some v, none] := rfl
  rw [e4, body, E_bi]
  simp only [Es_cons, Es_nil, hc]
  by_cases hq : xs.all (fun x => (rz x).isSome) = true
  · refine ⟨ν ++ [.lst (xs.filterMap rz)], g.trans (Grow.app _ _ _), ?_⟩
    simp only [hq, if_true, bind_ok']
    have : biM (ν ++ [.lst (xs.filterMap rz)]) .tuple [.ref ν.length] = .ok (.tup (xs.filterMap rz)) (ν ++ [.lst (xs.filterMap rz)]) := by
      simp only [biM, lstAt_new]
    rw [this]
    rfl
  · refine ⟨ν, g, ?_⟩
    simp only [hq, Bool.false_eq_true, if_false, bind_exc, stm_exc]
    rfl
/-- .. of what is no row -/
theorem rats_bad (k : Nat) (ht : tysM prog μ v [.list, .tuple] = some false) : (T (k + 1)).call 22 [v] μ = .exc ⟨1, []⟩ μ := by
  rw [run22]
  have f1 : evS (T k) (.raise 1 [(.str "numbers")]) [some v, none] μ = .exc ⟨1, []⟩ [some v, none] μ := S_raise (xs := [.str "numbers"]) (by simp) (by rw [TP]; rfl)
  simp only [runD, fullArgs]
  have e4 : slots d22 ([v] ++ List.drop (d22.dfl.length - (d22.np - [v].length)) d22.dfl) = [some v, none] := rfl
  rw [e4]
  simp only [d22, B_cons, S_ite, E_not, E_isin, E_var0, bind_ok', TP, ht, opt_some, tru_bl, Bool.not_false, if_true, stm_ok', f1, go_exc]
  rfl
/-! ### a row of Ratios -/
abbrev rowE (a b : Nat) : E := .and (.isin (.var a) [.tuple]) (.bi .all [(.comp (.isin (.var b) [.cls 4]) (.var b) (.var a) (.bl true) [b])])
def isOb : MV → Bool
  | .obj _ _ => true
  | _ => false
def rowB : MV → Bool
  | .tup xs => xs.all isOb
  | _ => false
def RowV (μ : Mem) : MV → Prop
  | .tup xs => xs.length ≤ 100 ∧ ∀ x ∈ xs, tysM prog μ x [.cls 4] = some (isOb x)
  | v => DatM μ v
theorem row_run (k : Nat) (hb : b < σ.length) (hab : b ≠ a) (ha : Has σ a v) (hv : RowV μ v) : ∃ ν, Grow [] μ ν ∧ evE (T k) (rowE a b) σ μ = .ok (.bl (rowB v)) ν := by
  have other : DatM μ v → isTupM v = false → rowB v = false → ∃ ν, Grow [] μ ν ∧ evE (T k) (rowE a b) σ μ = .ok (.bl (rowB v)) ν := fun hd ht hr => by
    refine ⟨μ, Grow.refl _ _, ?_⟩
    rw [E_and, E_isin, ha.ev, TP]
    simp only [bind_ok']
    rw [ty_tup hd, ht, hr]
    simp only [opt_some, bind_ok', tru_bl, Bool.false_eq_true, if_false]
  cases v with
  | tup xs =>
    obtain ⟨h1, h2⟩ := hv
    have hc : evE (T k) (.comp (.isin (.var b) [.cls 4]) (.var b) (.var a) (.bl true) [b]) σ μ = .ok (.ref μ.length) (μ ++ [.lst (xs.map fun x => .bl (isOb x))]) := by
      rw [← fm_some]
      refine comp_pure (J := .tup xs) (xs := xs) _ (by rw [Tn]; omega) (by rw [sl]; omega) (ha.ev _ _) rfl fun x hm => ?_
      refine ⟨_, by simp only [T_var]; rfl, ?_⟩
      have hs : Has ((wipeM σ [b]).set b (some x)) b x := Has.self (by simp only [wipe_cons, wipe_nil, List.length_set]; exact hb)
      unfold turnE
      simp only [E_bl, bind_ok', tru_bl, if_true, E_isin, hs.ev, TP, h2 x hm, opt_some]
    refine ⟨μ ++ [.lst (xs.map fun x => .bl (isOb x))], Grow.app _ _ _, ?_⟩
    have ht : tysM prog μ (.tup xs) [.tuple] = some true := rfl
    rw [E_and, E_isin, ha.ev, TP]
    simp only [bind_ok']
    rw [ht]
    simp only [opt_some, bind_ok', tru_bl, if_true, E_bi, Es_cons, Es_nil, hc]
    rw [all_new (p := isOb)]
    rfl
  | _ => exact other hv rfl rfl
theorem is_row (k : Nat) (hv : RowV μ v) : ∃ ν, Grow [] μ ν ∧ (T (k + 1)).call 21 [v] μ = .ok (.bl (rowB v)) ν := by
  rw [run21]
  obtain ⟨ν, g, e⟩ := row_run (σ := [some v, none]) (a := 0) (b := 1) k (by show 1 < 2; decide) (by decide) rfl hv
  refine ⟨ν, g, ?_⟩
  simp only [runD, fullArgs]
  have e4 : slots d21 ([v] ++ List.drop (d21.dfl.length - (d21.np - [v].length)) d21.dfl) = [some v, none] := rfl
  have hb : d21.body = [.ret (rowE 0 1)] := rfl
  rw [e4, hb, B_cons, S_ret, e]
  rfl
/-! ### texts of rows -/
theorem strs_is (ws : List Str) : strs' (ws.map MV.str) = some ws := by
  induction ws with
  | nil => rfl
  | cons w r ih =>
    rw [List.map_cons]
    show (strs' (r.map MV.str)).map _ = _
    rw [ih]
    rfl
theorem join_run (k : Nat) (hb : b < σ.length) (ha : Has σ a (.tup (oRs qs))) (hq : ∀ q ∈ qs, InQ q) (hn : qs.length ≤ 5) : evE (T (k + 1)) (.mth .join (.str ",") [(.comp (.ostr (.var b)) (.var b) (.var a) (.bl true) [b])]) σ μ = .ok (.str (txt qs)) (μ ++ [.lst ((qs.map rTxt).map .str)]) := by
  have hc : evE (T (k + 1)) (.comp (.ostr (.var b)) (.var b) (.var a) (.bl true) [b]) σ μ = .ok (.ref μ.length) (μ ++ [.lst ((qs.map rTxt).map .str)]) := by
    have hf : (qs.map rTxt).map MV.str = (oRs qs).filterMap fun x => match x with | .obj 4 [.int a, .int b] => some (.str (rTxt (Rat.divInt a b))) | _ => none := by
      unfold oRs
      rw [List.filterMap_map, List.map_map, ← fm_some]
      congr 1
      funext p
      show some _ = some _
      rw [Rat.num_divInt_den]
      rfl
    rw [hf]
    refine comp_pure (J := .tup (oRs qs)) (xs := oRs qs) _ (by rw [Tn, List.length_map]; omega) (by rw [sl, List.length_map]; omega) (ha.ev _ _) rfl fun x hm => ?_
    obtain ⟨q, hmq, rfl⟩ := List.mem_map.mp hm
    refine ⟨_, by simp only [T_var]; rfl, ?_⟩
    have hs : Has ((wipeM σ [b]).set b (some (oR q))) b (oR q) := Has.self (by simp only [wipe_cons, wipe_nil, List.length_set]; exact hb)
    unfold turnE
    simp only [E_bl, bind_ok', tru_bl, if_true, E_ostr, hs.ev, strR ((hq q hmq).bd.mono (show 30 ≤ 1900 by decide))]
    try rw [Rat.num_divInt_den]
  simp only [E_mth, E_str, bind_ok', show mthTy μ .join (.str ",") = true from rfl, if_true, Es_cons, Es_nil, hc]
  have hl : ((qs.map rTxt).map (·.length)).sum ≤ 5 * qs.length := by
    clear hc ha hn
    induction qs with
    | nil => simp
    | cons q r ih =>
      have h1 := (hq q (by simp)).text.1
      have h2 := ih fun q h => hq q (List.mem_cons_of_mem _ h)
      simp only [List.map_cons, List.sum_cons, List.length_cons]
      omega
  have hcl : ("," : Str).length = 1 := by decide +kernel
  simp only [mthM, lstAt_new, Option.bind_some, strs_is, List.length_map, hcl]
  rw [if_pos (by omega)]
  rfl
theorem text_run (k : Nat) (hq : ∀ q ∈ qs, InQ q) (hn : qs.length ≤ 5) : ∃ ν, Grow [] μ ν ∧ (T (k + 2)).call 26 [.tup (oRs qs)] μ = .ok (.str (if qs = [] then "-" else txt qs)) ν := by
  rw [run26]
  have hj := join_run (σ := [some (.tup (oRs qs)), none]) (μ := μ) (a := 0) (b := 1) k (by show 1 < 2; decide) rfl hq hn
  have hl : biM μ .len [.tup (oRs qs)] = .ok (.int qs.length) μ := by
    show R.ok (MV.int ((oRs qs).length : Nat)) μ = _
    rw [List.length_map]
  have e4 : slots d26 ([MV.tup (oRs qs)] ++ List.drop (d26.dfl.length - (d26.np - [MV.tup (oRs qs)].length)) d26.dfl) = [some (.tup (oRs qs)), none] := rfl
  have hb : d26.body = [.ret (.ite (.ocmp .Gt (.bi .len [(.var 0)]) (.int 0)) (.mth .join (.str ",") [(.comp (.ostr (.var 1)) (.var 1) (.var 0) (.bl true) [1])]) (.str "-"))] := rfl
  by_cases h0 : qs = []
  · refine ⟨μ, Grow.refl _ _, ?_⟩
    subst h0
    simp only [runD, fullArgs]
    rw [e4, hb, B_cons, S_ret, E_ite]
    simp only [E_ocmp, E_bi, Es_cons, Es_nil, E_var0, bind_ok', hl, E_int, cmpT_int, cmp_gt, opt_some, tru_bl]
    rfl
  · refine ⟨_, Grow.app _ _ [.lst ((qs.map rTxt).map .str)], ?_⟩
    simp only [runD, fullArgs]
    have hp : (0 : Int) < (qs.length : Int) := by
      have := List.length_pos_iff.mpr h0
      omega
    rw [e4, hb, B_cons, S_ret, E_ite]
    simp only [E_ocmp, E_bi, Es_cons, Es_nil, E_var0, bind_ok', hl, E_int, cmpT_int, cmp_gt, hp, decide_true, opt_some, tru_bl, if_true, hj, stm_ok', go_ret, h0, if_false]
    rfl
/-- _law_same of texts -/
theorem law_same_str (d : Nat) {x y : Str} (hx : sOk x = true) (hy : sOk y = true) : (T (d + 1)).call 33 [.str x, .str y] μ = .ok (.bl (decide (x = y))) μ := by
  rw [run33]
  refine R.To.is (runD_to rfl rfl ?_)
  simp only [d33, slots]
  simp [tysM, tyM, cmp_eqs (sok hx) (sok hy)]
/-! ### the draws -/
theorem InQ.mk {y z : Int} (y1 : 0 ≤ y) (y2 : y < 13) (z1 : 0 ≤ z) (z2 : z < 3) : InQ (Rat.divInt (y - 6) (1 + z)) := by
  obtain ⟨a, rfl⟩ := Int.eq_ofNat_of_zero_le y1
  obtain ⟨b, rfl⟩ := Int.eq_ofNat_of_zero_le z1
  have h1 : a < 13 := by omega
  have h2 : b < 3 := by omega
  exact Exists.intro a (Exists.intro b ⟨h1, h2, rfl⟩)
theorem law_num (k : Nat) (h : St i μ) : ((T (k + 3)).call 36 [.ref i] μ).To fun r ν => ∃ q, r = oR q ∧ InQ q ∧ St i ν ∧ Grow [i] μ ν := by
  rw [run36]
  refine runD_to rfl rfl ?_
  have hs : slots d36 [.ref i] = [some (.ref i)] := rfl
  have hb : d36.body = [.ret (.mk 4 [(.obin .Sub (.call 30 [(.var 0), (.int 13)]) (.int 6)), (.obin .Add (.int 1) (.call 30 [(.var 0), (.int 3)]))])] := rfl
  rw [hs, hb]
  obtain ⟨r, ν1, e1, y, rfl, y1, y2, s1, g1⟩ := (take_to (d := k + 1) (σ := [some (.ref i)]) (j := 0) rfl h (show (0 : Int) < 13 ∧ (13 : Int) < 1073741824 by decide)).eq
  obtain ⟨r, ν2, e2, z, rfl, z1, z2, s2, g2⟩ := (take_to (d := k + 1) (σ := [some (.ref i)]) (j := 0) rfl s1 (show (0 : Int) < 3 ∧ (3 : Int) < 1073741824 by decide)).eq
  have e1 : evE (T (k + 2)) (.call 30 [.var 0, .int 13]) [some (.ref i)] μ = .ok (.int y) ν1 := e1
  have e2 : evE (T (k + 2)) (.call 30 [.var 0, .int 3]) [some (.ref i)] ν1 = .ok (.int z) ν2 := e2
  have hm := mk_rat k (a := y - 6) (b := 1 + z) (μ := ν2) (by omega) (small2 (by omega) (by decide)) (small2 (by omega) (by decide))
  simp only [B_cons, B_nil, S_ret, E_mk, Es_cons, Es_nil, E_obin, e1, e2, E_int, bind_ok', binT_int, bin_sub, bin_add, hm, stm_ok', go_ret, STo_ok, retT_ret]
  exact ⟨Rat.divInt (y - 6) (1 + z), rfl, InQ.mk y1 y2 z1 z2, s2, g1.trans g2⟩
theorem law_num_row (k : Nat) {n : Nat} {N : Int} (hN : N = n) (h : St i μ) (hn : n ≤ 5) : ((T (k + 4)).call 37 [.ref i, .int N] μ).To fun r ν => ∃ qs, r = .tup (oRs qs) ∧ qs.length = n ∧ (∀ q ∈ qs, InQ q) ∧ St i ν ∧ Grow [i] μ ν := by
  rw [run37]
  refine runD_to rfl rfl ?_
  have hs : slots d37 [.ref i, .int N] = [some (.ref i), some (.int N), none] := rfl
  have hb : d37.body = [.ret (.bi .tuple [(.comp (.call 36 [(.var 0)]) (.var 2) (.rng [(.var 1)]) (.bl true) [2])])] := rfl
  rw [hs, hb]
  have hc : (evE (T (k + 3)) (.comp (.call 36 [(.var 0)]) (.var 2) (.rng [(.var 1)]) (.bl true) [2]) [some (.ref i), some (.int N), none] μ).To fun v ν => ∃ L m, v = .ref m ∧ lstAt ν m = some (oRs L) ∧ L.length = n ∧ (∀ q ∈ L, InQ q) ∧ St i ν ∧ Grow [i] μ ν := by
    refine comp_gen (J := .rng 0 n 1) (xs := rngL 0 n 1) (μ1 := μ) (fun m acc ν => ∃ L, acc = oRs L ∧ L.length = m ∧ (∀ q ∈ L, InQ q) ∧ St i ν ∧ Grow [i] μ ν) (by rw [Tn, rngL_len]; omega) (by rw [sl, rngL_len]; omega) ?_ rfl ⟨[], rfl, rfl, by simp, h, Grow.refl _ _⟩ (fun m acc ν h => ⟨rfl, by obtain ⟨L, rfl, l1, _⟩ := h; rw [List.length_map]; omega⟩) (fun m x acc ν hx h => ?_) fun acc ν h => ?_
    · simp only [E_rng, Es_cons, Es_nil, E_var0, E_varS, bind_ok']
      have := rng1 (μ := μ) (z := N) (by constructor <;> omega)
      rw [this, hN, Int.toNat_natCast]
    · obtain ⟨L, rfl, l1, l2, l3, l4⟩ := h
      refine ⟨_, by simp only [T_var]; rfl, ?_⟩
      simp only [wipe_cons, wipe_nil, List.set_cons_zero, List.set_cons_succ]
      obtain ⟨r, ν1, e1, q, rfl, q1, s1, g1⟩ := (law_num k l3).eq
      unfold turnE
      simp only [E_bl, bind_ok', tru_bl, if_true, E_call, Es_cons, Es_nil, E_var0, e1, To_ok]
      refine ⟨L ++ [q], by simp [oRs], by simp [l1], fun w hw => ?_, s1, l4.trans g1⟩
      rcases List.mem_append.mp hw with hw | hw
      · exact l2 w hw
      · have : w = q := by simpa using hw
        subst this
        exact q1
    · obtain ⟨L, rfl, l1, l2, l3, l4⟩ := h
      rw [rngL_len] at l1
      exact ⟨L, _, rfl, lstAt_new, l1, l2, l3.grow (Grow.app _ _ _), l4.trans (Grow.app _ _ _)⟩
  obtain ⟨v, ν, e, L, m, rfl, hm, l1, l2, l3, l4⟩ := hc.eq
  have ht : biM ν .tuple [.ref m] = .ok (.tup (oRs L)) ν := by simp only [biM, hm]
  simp only [B_cons, B_nil, S_ret, E_bi, Es_cons, Es_nil, e, bind_ok', ht, stm_ok', go_ret, STo_ok, retT_ret]
  exact ⟨L, rfl, l1, l2, l3, l4⟩
end
end Mch.k02

/-! ## k02: the law: its end, its bent texts -/
namespace Mch.k02
open PySem L2 TL Mch
def Tail (k j : Nat) (σ : Env) (μ : Mem) : Prop := (evB (T (k + 12)) (d40.body.drop j) σ μ).To fun f _ => f = .ret (.bl true)
structure Cx (σ : Env) (ν : Mem) (i : Nat) (qs : List Rat) : Prop where
  L : σ.length = 23
  h1 : Has σ 1 (.ref i)
  hS : St i ν
  h8 : Has σ 8 (.tup (oRs qs))
  q1 : ∀ q ∈ qs, InQ q
  n1 : qs ≠ []
  n5 : qs.length ≤ 5
section
variable {σ : Env} {ν μ : Mem} {qs : List Rat} {v x : MV} {i : Nat}
theorem Cx.set (h : Cx σ ν i qs) {j : Nat} {o : Option MV} (h1 : j ≠ 1) (h8 : j ≠ 8) : Cx (σ.set j o) ν i qs := ⟨by rw [List.length_set]; exact h.L, h.h1.ne h1, h.hS, h.h8.ne h8, h.q1, h.n1, h.n5⟩
theorem Cx.grow (h : Cx σ ν i qs) (g : Grow [] ν μ) : Cx σ μ i qs := ⟨h.L, h.h1, h.hS.grow g, h.h8, h.q1, h.n1, h.n5⟩
theorem Cx.self (h : Cx σ ν i qs) {j : Nat} {v : MV} (hj : j < 23) : Has (σ.set j (some v)) j v := Has.self (by rw [h.L]; exact hj)
/-! ### the end -/
abbrev txt0 : MV := .tup [.str "text", .int 0]
theorem bad27 (k : Nat) (ht : tysM prog μ v [.str] = some false) : (T (k + 1)).call 27 [v] μ = .exc xN μ := by
  rw [run27]
  simp only [runD, fullArgs]
  have e4 : slots d27 ([v] ++ List.drop (d27.dfl.length - (d27.np - [v].length)) d27.dfl) = [some v, none, none, none, none, none, none] := rfl
  rw [e4, d27_is, B_cons, S_ite]
  simp only [E_or, E_not, E_isin, E_var0, bind_ok', TP, ht, opt_some, tru_bl, Bool.not_false, if_true, stm_ok']
  rw [B_cons, raise_n]
  rfl
theorem bad28 (k : Nat) (ht : tysM prog μ v [.str] = some false) : (T (k + 1)).call 28 [v] μ = .exc xN μ := by
  rw [run28]
  simp only [runD, fullArgs]
  have e4 : slots d28 ([v] ++ List.drop (d28.dfl.length - (d28.np - [v].length)) d28.dfl) = [some v, none] := rfl
  rw [e4, show d28.body = .ite (.not (.isin (.var 0) [.str])) [.raise 3 [(.int 0)]] [] :: d28.body.drop 1 from rfl, B_cons, S_ite]
  simp only [E_not, E_isin, E_var0, bind_ok', TP, ht, opt_some, tru_bl, Bool.not_false, if_true, stm_ok']
  rw [B_cons, raise_n]
  rfl
theorem rep_run {T : Tab} {e : E} {n : Nat} (h : evE T e σ μ = .ok x μ) (hn : n ≤ 100) : evE T (.obin .Mult (.lst [e]) (.int n)) σ μ = .ok (.ref (μ ++ [Cell.lst [x]]).length) (μ ++ [Cell.lst [x]] ++ [Cell.lst (List.replicate n x)]) := by
  have hb : binM (μ ++ [.lst [x]]) .Mult (.ref μ.length) (.int n) = newL (List.replicate n x) (μ ++ [.lst [x]]) := by
    simp only [binM, get_new]
    rw [if_pos (by rw [sl]; simp only [List.length_cons, List.length_nil, Int.toNat_natCast]; omega), Int.toNat_natCast, List.flatten_replicate_singleton]
  simp only [E_obin, E_lst, Es_cons, Es_nil, h, bind_ok', newL1, E_int, binT_ref, hb]
  exact newL_ok' (xs := List.replicate n x) (by rw [sl, List.length_replicate]; omega)
theorem str_d {w : Str} {n : Nat} (h : PyData.strOk w = true) : toD μ (n + 1) (.str w) = some (.str w) := by simp only [toD, h, if_true]
theorem tx0_d : ∃ d, toD μ 39 txt0 = some d := by
  have h : PyData.strOk ("text" : Str) = true := by decide +kernel
  exact ⟨_, by simp only [toD, toDs, h, if_true, Option.map_some]; rfl⟩
abbrev actE : E := .tup [(.tup [(.fn 27), .non]), (.tup [(.fn 28), .non]), (.tup [(.fn 27), (.int 5)]), (.tup [(.fn 28), (.tup [(.str "1")])])]
abbrev fins : E := .comp (.call 38 [(.var 21), (.var 20)]) (.tup [(.var 21), (.var 20)]) actE (.bl true) [21, 20]
def acts : List MV := [.tup [.fn 27, .non], .tup [.fn 28, .non], .tup [.fn 27, .int 5], .tup [.fn 28, .tup [.str "1"]]]
theorem t15 (k : Nat) (hL : σ.length = 23) : Tail k 15 σ ν := by
  show (evB (T (k + 12)) (d40.body.drop 15) σ ν).To _
  have hd : d40.body.drop 15 = [.ret (.ocmp .Eq fins (.obin .Mult (.lst [(.tup [(.str "text"), (.int 0)])]) (.int 4)))] := rfl
  rw [hd]
  have hi : evE (T (k + 12)) actE σ ν = .ok (.tup acts) ν := by
    simp only [E_tup, Es_cons, Es_nil, E_fn, E_non, E_int, E_str, bind_ok', newT1, newT2, newT4]
    rfl
  have hc : evE (T (k + 12)) fins σ ν = .ok (.ref ν.length) (ν ++ [.lst [txt0, txt0, txt0, txt0]]) := by
    have hf : [txt0, txt0, txt0, txt0] = acts.filterMap fun _ => some txt0 := rfl
    rw [hf]
    refine comp_pure (J := .tup acts) (xs := acts) _ (by rw [Tn]; decide) (by rw [sl]; decide) hi rfl fun x hm => ?_
    have key : ∀ f v, x = .tup [.fn f, v] → (T (k + 10)).call f [v] ν = .exc xN ν → ∃ σ1, bindT (.tup [(.var 21), (.var 20)]) x (wipeM σ [21, 20]) = some σ1 ∧ turnE (T (k + 12)) (.bl true) (.call 38 [(.var 21), (.var 20)]) σ1 ν = .ok (some txt0) ν := by
      rintro f v rfl hf
      refine ⟨((wipeM σ [21, 20]).set 21 (some (.fn f))).set 20 (some v), by simp only [bindT, bindT.go, List.length_cons, List.length_nil, if_true, Option.bind_some], ?_⟩
      have hw : (wipeM σ [21, 20]).length = 23 := by simp only [wipe_cons, wipe_nil, List.length_set, hL]
      have s1 : Has (((wipeM σ [21, 20]).set 21 (some (.fn f))).set 20 (some v)) 21 (.fn f) := (Has.self (by rw [hw]; decide)).ne (by decide)
      have s2 : Has (((wipeM σ [21, 20]).set 21 (some (.fn f))).set 20 (some v)) 20 v := Has.self (by rw [List.length_set, hw]; decide)
      have hr := read_run (k + 10) f hf (by show R.ok _ _ ≠ _; intro z; cases z)
      unfold turnE
      simp only [E_bl, bind_ok', tru_bl, if_true, E_call, Es_cons, Es_nil, s1.ev, s2.ev]
      rw [hr]
      rfl
    simp only [acts, List.mem_cons, List.not_mem_nil, or_false] at hm
    rcases hm with rfl | rfl | rfl | rfl
    · exact key 27 .non rfl (bad27 (k + 9) rfl)
    · exact key 28 .non rfl (bad28 (k + 9) rfl)
    · exact key 27 (.int 5) rfl (bad27 (k + 9) rfl)
    · exact key 28 (.tup [.str "1"]) rfl (bad28 (k + 9) rfl)
  have hr := rep_run (T := T (k + 12)) (σ := σ) (μ := ν ++ [.lst [txt0, txt0, txt0, txt0]]) (e := .tup [(.str "text"), (.int 0)]) (x := txt0) (n := 4) (by simp only [E_tup, Es_cons, Es_nil, E_str, E_int, bind_ok', newT2]) (by decide)
  have hr : evE (T (k + 12)) (.obin .Mult (.lst [(.tup [(.str "text"), (.int 0)])]) (.int 4)) σ (ν ++ [.lst [txt0, txt0, txt0, txt0]]) = _ := hr
  generalize hμ : ν ++ [Cell.lst [txt0, txt0, txt0, txt0]] ++ [Cell.lst [txt0]] = μ2 at hr
  have l1 : lstAt (μ2 ++ [.lst (List.replicate 4 txt0)]) ν.length = some [txt0, txt0, txt0, txt0] := by
    refine Grow.lst (e := []) (Grow.app _ _ _) ?_ (by simp)
    rw [← hμ]
    exact Grow.lst (e := []) (Grow.app _ _ _) lstAt_new (by simp)
  have l2 : lstAt (μ2 ++ [.lst (List.replicate 4 txt0)]) μ2.length = some [txt0, txt0, txt0, txt0] := lstAt_new
  have hcm : cmpT (T (k + 12)) (μ2 ++ [.lst (List.replicate 4 txt0)]) .Eq (.ref ν.length) (.ref μ2.length) = .ok true (μ2 ++ [.lst (List.replicate 4 txt0)]) := by
    refine cmpT_ref ?_
    show eqM _ _ _ = _
    refine eq_refs l1 l2 fun x hx => ?_
    have : x = txt0 := by simpa using hx
    rw [this]
    exact tx0_d
  rw [B_cons, S_ret, E_ocmp, hc]
  simp only [bind_ok']
  rw [hr]
  simp only [bind_ok']
  rw [hcm]
  simp only [bind_ok', stm_ok', go_ret, STo_ok]
/-! ### one bent text -/
abbrev bs0 : S := .asg (.var 15) (.call 39 [(.var 7)])
abbrev bs1 : S := .asg (.var 18) (.call 38 [(.fn 27), (.var 7)])
abbrev cnd : E := .or (.ocmp .NotEq (.idx (.var 18) (.int 0)) (.ite (.var 15) (.str "told") (.str "text"))) (.or (.and (.not (.var 15)) (.ocmp .NotEq (.idx (.var 18) (.int 1)) (.int 0))) (.and (.var 15) (.ocmp .NotEq (.ostr (.idx (.var 18) (.int 1))) (.var 7))))
abbrev bs2 : S := .ite cnd [.ret (.bl false)] []
abbrev bs3 : S := .asg (.var 19) (.obin .Add (.obin .Add (.var 5) (.str ",")) (.var 7))
abbrev allE : E := .bi .all [(.comp (.call 39 [(.var 22)]) (.var 22) (.mth .split (.var 19) [(.str ",")]) (.bl true) [22])]
abbrev cn2 : E := .ocmp .NotEq (.idx (.call 38 [(.fn 28), (.var 19)]) (.int 0)) (.ite allE (.str "told") (.str "text"))
abbrev bs4 : S := .ite cn2 [.ret (.bl false)] []
theorem all_texts {T : Tab} (hTn : T.n = 100000) {elt it : E} {v m : Nat} {ws : List Str} {P : Str → Bool} (hn : ws.length ≤ 1000) (hi : evE T it σ μ = .ok (.ref m) ν) (hl : lstAt ν m = some (ws.map .str))
    (h : ∀ w ∈ ws, ∀ ν1, Grow [] ν ν1 → ∃ ν2, Grow [] ν1 ν2 ∧ evE T elt (σ.set v (some (.str w))) ν1 = .ok (.bl (P w)) ν2) :
    ∃ ν2, Grow [] ν ν2 ∧ evE T (.bi .all [.comp elt (.var v) it (.bl true) [v]]) σ μ = .ok (.bl (ws.all P)) ν2 := by
  have hc : (evE T (.comp elt (.var v) it (.bl true) [v]) σ μ).To fun r ν2 => ∃ ν1, Grow [] ν ν1 ∧ r = .ref ν1.length ∧ ν2 = ν1 ++ [.lst ((ws.map MV.str).map fun x => .bl (pS P x))] := by
    refine comp_to (J := .ref m) (xs := ws.map .str) (fun x => some (.bl (pS P x))) (by rw [hTn]; simp; omega) (by rw [sl]; simp; omega) hi hl (fun x μ2 hm gr => ?_) fun μ2 gr => ?_
    · obtain ⟨w, hw, rfl⟩ := List.mem_map.mp hm
      refine ⟨_, by simp only [T_var]; rfl, ?_⟩
      simp only [wipe_cons, wipe_nil, List.set_set]
      obtain ⟨ν2, g2, he⟩ := h w hw μ2 gr
      unfold turnE
      simp only [E_bl, bind_ok', tru_bl, if_true, he, To_ok]
      exact ⟨by trivial, g2⟩
    · refine ⟨μ2, gr, rfl, ?_⟩
      rw [fm_some]
  obtain ⟨r, ν2, he, ν1, g1, rfl, rfl⟩ := hc.eq
  refine ⟨ν1 ++ [.lst ((ws.map MV.str).map fun x => .bl (pS P x))], g1.trans (Grow.app _ _ _), ?_⟩
  rw [E_bi]
  simp only [Es_cons, Es_nil, he, bind_ok']
  rw [all_new (p := pS P), List.all_map]
  rfl
def tv : Option Rat → MV
  | some q => .tup [.str "told", oR q]
  | none => txt0
theorem read_tv {r : Option Rat} : readK (outR r ν) = .ok (tv r) ν := by cases r <;> rfl
theorem addS {a b : Str} (h : a.length + b.length ≤ 1000) : binM μ .Add (.str a) (.str b) = .ok (.str (a ++ b)) μ := if_pos (by rw [sl]; omega)
theorem catS {T : Tab} {A B : E} {a b : Str} (hA : evE T A σ μ = .ok (.str a) μ) (hB : evE T B σ μ = .ok (.str b) μ) (h : a.length + b.length ≤ 1000) : evE T (.obin .Add A B) σ μ = .ok (.str (a ++ b)) μ := by
  simp only [E_obin, hA, hB, bind_ok', binT_str, addS h]
theorem ok_told : PyData.strOk ("told" : Str) = true := by decide +kernel
theorem ok_text : PyData.strOk ("text" : Str) = true := by decide +kernel
theorem ne_str {a : Str} (h : PyData.strOk a = true) : cmpM μ .NotEq (.str a) (.str a) = some false := by
  rw [cmp_nes h h]
  simp
theorem cnd_run (k : Nat) {r : Option Rat} {b : Str} (hb : sOk b = true) (h7 : Has σ 7 (.str b)) (h15 : Has σ 15 (.bl r.isSome)) (h18 : Has σ 18 (tv r)) (hr : ∀ q, r = some q → rTxt q = b ∧ Bd 30 q) : evE (T (k + 1)) cnd σ ν = .ok (.bl false) ν := by
  cases r with
  | none =>
    have i0 : idxM ν (tv none) (.int 0) = some (.str "text") := rfl
    have i1 : idxM ν (tv none) (.int 1) = some (.int 0) := rfl
    simp only [E_or, E_and, E_not, E_ocmp, E_idx, E_ite, E_int, E_str, h18.ev, h15.ev, bind_ok', i0, i1, opt_some, Option.isSome_none, tru_bl, Bool.false_eq_true, if_false, cmpT_str, ne_str ok_text, Bool.not_false, if_true, cmpT_int, cmp_nei, decide_true, Bool.not_true]
  | some q =>
    have i0 : idxM ν (tv (some q)) (.int 0) = some (.str "told") := rfl
    have i1 : idxM ν (tv (some q)) (.int 1) = some (oR q) := rfl
    obtain ⟨h1, h2⟩ := hr q rfl
    have hs := strR (J := k) (μ := ν) (h2.mono (show 30 ≤ 1900 by decide))
    rw [h1] at hs
    simp only [E_or, E_and, E_not, E_ocmp, E_ostr, E_idx, E_ite, E_int, E_str, h18.ev, h15.ev, h7.ev, bind_ok', i0, i1, opt_some, Option.isSome_some, tru_bl, Bool.false_eq_true, if_false, cmpT_str, ne_str ok_told, Bool.not_true, if_true, hs, ne_str (sok hb)]
theorem one_run (k : Nat) {b : Str} (hb : both b = true) (hl : b.length ≤ 401) (C : Cx σ ν i qs) (h5 : Has σ 5 (.str (txt qs))) (h7 : Has σ 7 (.str b)) : (evB (T (k + 12)) [bs0, bs1, bs2, bs3, bs4] σ ν).To fun f μ => ∃ σ', f = .next σ' ∧ Cx σ' μ i qs ∧ Has σ' 5 (.str (txt qs)) := by
  obtain ⟨c1, r, c2, c3, c4⟩ := chk_is (both_is hb).1
  have ho : sOk b = true := isT_ok c3
  obtain ⟨ν1, g1, e1⟩ := isT_run (μ := ν) (k + 10) c1 c3
  have e1 : (T (k + 12)).call 39 [.str b] ν = .ok (.bl r.isSome) ν1 := e1
  obtain ⟨ν2, g2, e2⟩ := rd_run (μ := ν1) (k + 6) c1 c2
  have e2 : (T (k + 10)).call 27 [.str b] ν1 = outR r ν2 := e2
  have e3 := read_run (k + 10) 27 e2 (by rw [read_tv]; intro z; cases z)
  rw [read_tv] at e3
  have e3 : (T (k + 12)).call 38 [.fn 27, .str b] ν1 = .ok (tv r) ν2 := e3
  have C1 := C.set (j := 15) (o := some (.bl r.isSome)) (by decide) (by decide)
  have C2 := (C1.set (j := 18) (o := some (tv r)) (by decide) (by decide)).grow (g1.trans g2)
  have k7 : Has (σ.set 15 (some (.bl r.isSome))) 7 (.str b) := h7.ne (by decide)
  have k15 : Has ((σ.set 15 (some (.bl r.isSome))).set 18 (some (tv r))) 15 (.bl r.isSome) := (C.self (by decide)).ne (by decide)
  have k18 : Has ((σ.set 15 (some (.bl r.isSome))).set 18 (some (tv r))) 18 (tv r) := C1.self (by decide)
  have k7' : Has ((σ.set 15 (some (.bl r.isSome))).set 18 (some (tv r))) 7 (.str b) := k7.ne (by decide)
  have k5' : Has ((σ.set 15 (some (.bl r.isSome))).set 18 (some (tv r))) 5 (.str (txt qs)) := (h5.ne (by decide)).ne (by decide)
  have hcnd := cnd_run (ν := ν2) (k + 11) ho k7' k15 k18 c4
  have hcnd : evE (T (k + 12)) cnd ((σ.set 15 (some (.bl r.isSome))).set 18 (some (tv r))) ν2 = .ok (.bl false) ν2 := hcnd
  generalize hσ2 : (σ.set 15 (some (.bl r.isSome))).set 18 (some (tv r)) = σ2 at *
  have tl30 := txt_len C.q1 C.n5
  have cl : ("," : Str).length = 1 := by decide +kernel
  have e4 : evE (T (k + 12)) (.obin .Add (.obin .Add (.var 5) (.str ",")) (.var 7)) σ2 ν2 = .ok (.str (lineT qs b)) ν2 := by
    simp only [E_obin, k5'.ev, E_str, k7'.ev, bind_ok', binT_str, addS (μ := ν2) (a := txt qs) (b := ",") (by omega)]
    rw [addS (by rw [app_len]; omega)]
    rfl
  have C3 := C2.set (j := 19) (o := some (.str (lineT qs b))) (by decide) (by decide)
  have k19 : Has (σ2.set 19 (some (.str (lineT qs b)))) 19 (.str (lineT qs b)) := C2.self (by decide)
  have k5 : Has (σ2.set 19 (some (.str (lineT qs b)))) 5 (.str (txt qs)) := k5'.ne (by decide)
  generalize hσ3 : σ2.set 19 (some (.str (lineT qs b))) = σ3 at *
  have hch := line_chk (b := b) C.q1 C.n1 hb
  have hll := line_len (b := b) C.q1 C.n5 hl
  obtain ⟨ν3, g3, e5⟩ := rrs_run (p := lineT qs b) (μ := ν2) (k + 5) (by omega) (line_ok ho) line_dash fun w hw => by
    obtain ⟨z1, r, z2, _⟩ := chk_is (hch w hw)
    exact ⟨z1, by rw [z2]; rfl⟩
  have e5 : (T (k + 10)).call 28 [.str (lineT qs b)] ν2 = _ := e5
  have e6 : ∃ z, (T (k + 12)).call 38 [.fn 28, .str (lineT qs b)] ν2 = .ok (.tup [.str (if (parts (lineT qs b)).all (fun w => (val w).isSome) then "told" else "text"), z]) ν3 := by
    by_cases hq : (parts (lineT qs b)).all (fun w => (val w).isSome) = true
    · rw [if_pos hq] at e5
      exact ⟨_, by rw [if_pos hq]; exact read_run (k + 10) 28 e5 (by show R.ok _ _ ≠ _; intro z; cases z)⟩
    · rw [if_neg hq] at e5
      exact ⟨_, by rw [if_neg hq]; exact read_run (k + 10) 28 e5 (by show R.ok _ _ ≠ _; intro z; cases z)⟩
  obtain ⟨z, e6⟩ := e6
  have hplen : (parts (lineT qs b)).length ≤ 1000 := by
    unfold parts
    rw [List.length_map]
    have := spl_len [44] (tl (lineT qs b)) []
    have h2 := len_tl (lineT qs b)
    omega
  have hm : mthM ν3 .split (.str (lineT qs b)) [.str ","] = .ok (.ref ν3.length) (ν3 ++ [.lst ((parts (lineT qs b)).map .str)]) := by
    simp only [mthM]
    rw [if_pos ⟨by decide +kernel, by rw [sl]; omega⟩, parts_is]
    exact newL_ok' (by rw [sl, List.length_map]; omega)
  have hi : evE (T (k + 12)) (.mth .split (.var 19) [(.str ",")]) σ3 ν3 = .ok (.ref ν3.length) (ν3 ++ [.lst ((parts (lineT qs b)).map .str)]) := by
    simp only [E_mth, k19.ev, bind_ok', show mthTy ν3 .split (.str (lineT qs b)) = true from rfl, if_true, Es_cons, Es_nil, E_str, hm]
  obtain ⟨ν4, g4, e7⟩ := all_texts (T := T (k + 12)) (Tn _) (σ := σ3) (elt := .call 39 [(.var 22)]) (v := 22) (P := fun w => (val w).isSome) hplen hi lstAt_new fun w hw μ1 _ => by
    obtain ⟨z1, r, z2, z3, _⟩ := chk_is (hch w hw)
    obtain ⟨μ2, g, e⟩ := isT_run (μ := μ1) (k + 10) z1 (val_chk (hch w hw))
    refine ⟨μ2, g, ?_⟩
    have s : Has (σ3.set 22 (some (.str w))) 22 (.str w) := C3.self (by decide)
    simp only [E_call, Es_cons, Es_nil, s.ev, bind_ok']
    exact e
  have g34 : Grow [] ν3 ν4 := (Grow.app _ _ _).trans g4
  have hcn2 : evE (T (k + 12)) cn2 σ3 ν2 = .ok (.bl false) ν4 := by
    have i0 : ∀ s, idxM ν3 (.tup [.str s, z]) (.int 0) = some (.str s) := fun _ => rfl
    rw [E_ocmp, E_idx, E_call]
    simp only [Es_cons, Es_nil, E_fn, k19.ev, bind_ok', e6, E_int, i0, opt_some]
    rw [E_ite, e7]
    simp only [bind_ok', tru_bl]
    by_cases hq : (parts (lineT qs b)).all (fun w => (val w).isSome) = true
    · simp only [hq, if_true, E_str, bind_ok', cmpT_str, ne_str ok_told, opt_some]
    · simp only [hq, Bool.false_eq_true, if_false, E_str, bind_ok', cmpT_str, ne_str ok_text, opt_some]
  rw [B_cons, S_asg]
  simp only [E_call, Es_cons, Es_nil, h7.ev, bind_ok', e1, stm_ok', A_var, calm_ok', go_next]
  rw [B_cons, S_asg]
  simp only [E_call, Es_cons, Es_nil, E_fn, k7.ev, bind_ok', e3, stm_ok', A_var, calm_ok', go_next]
  rw [hσ2, B_cons, S_ite, hcnd]
  simp only [stm_ok', tru_bl, Bool.false_eq_true, if_false, B_nil, go_next]
  rw [B_cons, S_asg, e4]
  simp only [stm_ok', A_var, calm_ok', go_next]
  rw [hσ3, B_cons, S_ite, hcn2]
  simp only [stm_ok', tru_bl, Bool.false_eq_true, if_false, B_nil, go_next, STo_ok]
  exact ⟨σ3, rfl, C3.grow (g3.trans g34), k5⟩
/-! ### all bent texts -/
abbrev bentE : E := .tup [(.var 6), (.obin .Add (.obin .Add (.slc (.var 6) .non (.var 16)) (.var 17)) (.slc (.var 6) (.var 16) .non)), (.obin .Add (.slc (.var 6) .non (.var 16)) (.slc (.var 6) (.obin .Add (.var 16) (.int 1)) .non)), (.obin .Add (.str "0") (.var 6)), (.obin .Add (.var 6) (.str "/1")), (.obin .Add (.str "-") (.var 6)), (.str "2/4"), (.str "1/0"), (.str ""), (.str "-"), (.str "0/5"), (.obin .Mult (.str "1") (.int 401))]
theorem bent_run (k : Nat) {p : Str} {n c : Nat} (hp : p.length ≤ 5) (h6 : Has σ 6 (.str p)) (h16 : Has σ 16 (.int n)) (h17 : Has σ 17 (.str (st [c]))) : evE (T k) bentE σ ν = .ok (.tup ((bentL p n c).map .str)) ν := by
  have hl : (tl p).length = p.length := (len_tl _).symm
  have s1 : evE (T k) (.slc (.var 6) .non (.var 16)) σ ν = .ok (.str (st ((tl p).take n))) ν := by
    have h1 : partR (E.non).isNon (R.ok MV.non ν) ν = .ok none ν := rfl
    have h2 : partR (E.var 16).isNon (R.ok (MV.int n) ν) ν = .ok (some (n : Int)) ν := rfl
    rw [E_slc, h6.ev]
    simp only [bind_ok', h16.ev, E_non, h1, h2]
    exact head_cut (by omega)
  have s2 : evE (T k) (.slc (.var 6) (.var 16) .non) σ ν = .ok (.str (st ((tl p).drop n))) ν := by
    have h1 : partR (E.non).isNon (R.ok MV.non ν) ν = .ok none ν := rfl
    have h2 : partR (E.var 16).isNon (R.ok (MV.int n) ν) ν = .ok (some (n : Int)) ν := rfl
    rw [E_slc, h6.ev]
    simp only [bind_ok', h16.ev, E_non, h1, h2]
    exact tail_cut (by omega)
  have s3 : evE (T k) (.slc (.var 6) (.obin .Add (.var 16) (.int 1)) .non) σ ν = .ok (.str (st ((tl p).drop (n + 1)))) ν := by
    have h0 : evE (T k) (.obin .Add (.var 16) (.int 1)) σ ν = .ok (.int ((n + 1 : Nat) : Int)) ν := by
      simp only [E_obin, h16.ev, E_int, bind_ok', binT_int, bin_add]
      rfl
    have h1 : partR (E.non).isNon (R.ok MV.non ν) ν = .ok none ν := rfl
    have h2 : partR (E.obin .Add (.var 16) (.int 1)).isNon (R.ok (MV.int ((n + 1 : Nat) : Int)) ν) ν = .ok (some ((n + 1 : Nat) : Int)) ν := rfl
    rw [E_slc, h6.ev]
    simp only [bind_ok']
    rw [h0, h2]
    simp only [bind_ok', E_non, h1]
    exact tail_cut (by omega)
  have e0 : ("0" : Str).length = 1 := by decide +kernel
  have e1 : ("/1" : Str).length = 2 := by decide +kernel
  have e2 : ("-" : Str).length = 1 := by decide +kernel
  have lt : ∀ m, (st ((tl p).take m)).length ≤ 5 := fun m => by rw [st_len, List.length_take]; omega
  have ld : ∀ m, (st ((tl p).drop m)).length ≤ 5 := fun m => by rw [st_len, List.length_drop]; omega
  have lc : (st [c]).length = 1 := st_len _
  have l1 := lt n
  have l2 := ld n
  have l3 := ld (n + 1)
  have v6 := h6.ev (T k) ν
  have a1 : evE (T k) (.obin .Add (.obin .Add (.slc (.var 6) .non (.var 16)) (.var 17)) (.slc (.var 6) (.var 16) .non)) σ ν = .ok (.str (insT p n c)) ν := catS (catS s1 (h17.ev _ _) (by omega)) s2 (by rw [app_len]; omega)
  have a2 : evE (T k) (.obin .Add (.slc (.var 6) .non (.var 16)) (.slc (.var 6) (.obin .Add (.var 16) (.int 1)) .non)) σ ν = .ok (.str (delT p n)) ν := catS s1 s3 (by omega)
  have a3 : evE (T k) (.obin .Add (.str "0") (.var 6)) σ ν = .ok (.str (("0" : Str) ++ p)) ν := catS E_str v6 (by omega)
  have a4 : evE (T k) (.obin .Add (.var 6) (.str "/1")) σ ν = .ok (.str (p ++ ("/1" : Str))) ν := catS v6 E_str (by omega)
  have a5 : evE (T k) (.obin .Add (.str "-") (.var 6)) σ ν = .ok (.str (("-" : Str) ++ p)) ν := catS E_str v6 (by omega)
  have a6 : evE (T k) (.obin .Mult (.str "1") (.int 401)) σ ν = .ok (.str T401) ν := by
    simp only [E_obin, E_str, E_int, bind_ok', binT_str]
    have h1 : ("1" : Str).length = 1 := by decide +kernel
    have h2 : (⟨(List.replicate (401 : Int).toNat ("1" : Str).cps).foldl (· ++ ·) #[]⟩ : Str) = T401 := by decide +kernel
    simp only [binM]
    rw [if_pos ⟨by decide, by decide, by omega, by omega⟩, h2]
  rw [E_tup]
  simp only [Es_cons, Es_nil, h6.ev, a1, a2, a3, a4, a5, a6, E_str, bind_ok']
  exact newT_ok' (by show 12 ≤ sizeLine; decide)
theorem t14 (k : Nat) {q : Rat} {n c : Nat} (C : Cx σ ν i qs) (hq : q ∈ qs) (hn : n ≤ (rTxt q).length) (hc : c ∈ marks) (h5 : Has σ 5 (.str (txt qs))) (h6 : Has σ 6 (.str (rTxt q))) (h16 : Has σ 16 (.int n)) (h17 : Has σ 17 (.str (st [c]))) : Tail k 14 σ ν := by
  show (evB (T (k + 12)) (d40.body.drop 14) σ ν).To _
  have hd : d40.body.drop 14 = .for (.var 7) bentE [bs0, bs1, bs2, bs3, bs4] :: d40.body.drop 15 := rfl
  have hQ := C.q1 q hq
  rw [hd, B_cons, S_for, bent_run (k + 12) hQ.text.1 h6 h16 h17]
  simp only [stm_ok', itM]
  refine RS.To.go ?_
  refine forL_to (xs := (bentL (rTxt q) n c).map .str) (I := fun m σ' ν' => Cx σ' ν' i qs ∧ Has σ' 5 (.str (txt qs))) (fun m σ' ν' hI => rfl) (fun m x σ' ν' hx hI => ?_) (fun σ' ν' hI => ?_) _ 0 _ _ (Nat.zero_le _) (by rw [Tn]; show 12 < 100000 + 0; decide) ⟨C, h5⟩
  · obtain ⟨C', h5'⟩ := hI
    rw [List.getElem?_map] at hx
    obtain ⟨b, hb, rfl⟩ := Option.map_eq_some_iff.mp hx
    obtain ⟨b1, b2⟩ := bentL_ok hQ hn hc b (List.mem_of_getElem? hb)
    refine ⟨_, by simp only [T_var]; rfl, ?_⟩
    refine (one_run k b1 b2 (C'.set (j := 7) (by decide) (by decide)) (h5'.ne (by decide)) (C'.self (by decide))).imp fun f μ hf => ?_
    obtain ⟨σ2, rfl, z1, z2⟩ := hf
    exact ⟨z1, z2⟩
  · rw [goT_next]
    exact t15 k hI.1.L
end
end Mch.k02

/-! ## k02: the law: its middle -/
namespace Mch.k02
open PySem L2 TL Mch
section
variable {σ : Env} {ν μ : Mem} {qs rs : List Rat} {v x : MV} {i : Nat} {q : Rat}
theorem Cx.upd (h : Cx σ ν i qs) (hs : St i μ) : Cx σ μ i qs := ⟨h.L, h.h1, hs, h.h8, h.q1, h.n1, h.n5⟩
theorem idx_at {p : Str} {y : Int} (hp : p.length ≤ 1000) (h0 : 0 ≤ y) (h1 : y < p.length) : ∃ c, c ∈ tl p ∧ idxM μ (.str p) (.int y) = some (.str (st [c])) := by
  have hl : p.cps.toList.length = p.length := by simp [Str.length]
  have hy : y.toNat < p.cps.toList.length := by omega
  refine ⟨p.cps.toList[y.toNat], List.getElem_mem hy, ?_⟩
  simp only [idxM]
  rw [if_pos (by rw [sl]; omega)]
  have : ixM p.cps.toList.length y = some y.toNat := by
    unfold ixM
    rw [if_pos h0, if_pos (by omega)]
  rw [this, Option.bind_some, List.getElem?_eq_getElem hy]
  rfl
theorem t13 (k : Nat) (C : Cx σ ν i qs) (hq : q ∈ qs) (h5 : Has σ 5 (.str (txt qs))) (h6 : Has σ 6 (.str (rTxt q))) : Tail k 13 σ ν := by
  show (evB (T (k + 12)) (d40.body.drop 13) σ ν).To _
  have hd : d40.body.drop 13 = .asg (.tup [(.var 16), (.var 17)]) (.tup [(.call 30 [(.var 1), (.obin .Add (.bi .len [(.var 6)]) (.int 1))]), (.idx (.str "019-/,. x") (.call 30 [(.var 1), (.int 9)]))]) :: d40.body.drop 14 := rfl
  have hl5 := (C.q1 q hq).text.1
  obtain ⟨r, ν1, e1, y, rfl, y1, y2, s1, g1⟩ := (law_take (k + 11) (m := ((rTxt q).length : Int) + 1) C.hS (by omega)).eq
  obtain ⟨r, ν2, e2, z, rfl, z1, z2, s2, g2⟩ := (take_to (d := k + 11) C.h1 s1 (show (0 : Int) < 9 ∧ (9 : Int) < 1073741824 by decide)).eq
  have e1 : (T (k + 12)).call 30 [.ref i, .int (((rTxt q).length : Int) + 1)] ν = .ok (.int y) ν1 := e1
  have e2 : evE (T (k + 12)) (.call 30 [.var 1, .int 9]) σ ν1 = .ok (.int z) ν2 := e2
  have hml : ("019-/,. x" : Str).length = 9 := by decide +kernel
  obtain ⟨c, c1, c2⟩ := idx_at (μ := ν2) (p := "019-/,. x") (y := z) (by omega) z1 (by omega)
  have e3 : evE (T (k + 12)) (.tup [(.call 30 [(.var 1), (.obin .Add (.bi .len [(.var 6)]) (.int 1))]), (.idx (.str "019-/,. x") (.call 30 [(.var 1), (.int 9)]))]) σ ν = .ok (.tup [.int y, .str (st [c])]) ν2 := by
    have h0 : evE (T (k + 12)) (.call 30 [(.var 1), (.obin .Add (.bi .len [(.var 6)]) (.int 1))]) σ ν = .ok (.int y) ν1 := by
      simp only [E_call, Es_cons, Es_nil, C.h1.ev, E_obin, E_bi, h6.ev, bind_ok', len_s (show (rTxt q).length ≤ 1000 by omega), E_int, binT_int, bin_add]
      exact e1
    rw [E_tup]
    simp only [Es_cons, Es_nil, h0, bind_ok', E_idx, E_str, e2, c2, opt_some, newT2]
  rw [hd, B_cons, S_asg, e3]
  simp only [stm_ok', A_tup, List.length_cons, List.length_nil, if_true, Ag_cons, Ag_nil, A_var, bind_ok', calm_ok', go_next]
  have C1 := (C.upd s2).set (j := 16) (o := some (.int y)) (by decide) (by decide)
  have C2 := C1.set (j := 17) (o := some (.str (st [c]))) (by decide) (by decide)
  have hy : y = (y.toNat : Int) := (Int.toNat_of_nonneg y1).symm
  refine t14 k (n := y.toNat) C2 hq (by omega) c1 ((h5.ne (by decide)).ne (by decide)) ((h6.ne (by decide)).ne (by decide)) ?_ (C1.self (by decide))
  rw [← hy]
  exact ((C.upd s2).self (by decide)).ne (by decide)
theorem row0 (C : Cx σ ν i qs) : ∃ q, q ∈ qs ∧ idxM μ (.tup (oRs qs)) (.int 0) = some (oR q) := by
  obtain ⟨q, r, rfl⟩ := List.exists_cons_of_ne_nil C.n1
  refine ⟨q, by simp, ?_⟩
  simp only [idxM, ixM, List.map_cons, List.length_cons]
  rw [if_pos (by omega), if_pos (by omega)]
  rfl
theorem t12 (k : Nat) (C : Cx σ ν i qs) (h5 : Has σ 5 (.str (txt qs))) : Tail k 12 σ ν := by
  show (evB (T (k + 12)) (d40.body.drop 12) σ ν).To _
  have hd : d40.body.drop 12 = .asg (.var 6) (.ostr (.idx (.var 8) (.int 0))) :: d40.body.drop 13 := rfl
  obtain ⟨q, hq, h0⟩ := row0 (μ := ν) C
  have hs := strR (J := k + 11) (μ := ν) ((C.q1 q hq).bd.mono (show 30 ≤ 1900 by decide))
  have hs : strT (T (k + 12)) ν (oR q) = _ := hs
  rw [hd, B_cons, S_asg]
  simp only [E_ostr, E_idx, C.h8.ev, E_int, bind_ok', h0, opt_some, hs, stm_ok', A_var, calm_ok', go_next]
  exact t13 k (C.set (by decide) (by decide)) hq (h5.ne (by decide)) (C.self (by decide))
/-! ### comparisons -/
theorem toDs_no {f : MV → Option PyData} : ∀ {xs : List MV}, x ∈ xs → f x = none → toDs f xs = none
  | y :: ys, h, h0 => by
    rcases List.mem_cons.mp h with rfl | h
    · simp only [toDs, h0]
    · simp only [toDs, toDs_no h h0]
      cases f y <;> rfl
theorem no_obj {n : Nat} : toD μ n (oR q) = none := by
  cases n with
  | zero => simp only [toD]
  | succ n => rfl
theorem no_row {n : Nat} (hq : q ∈ qs) : toD μ n (.tup (oRs qs)) = none := by
  cases n with
  | zero => simp only [toD]
  | succ n =>
    show (toDs (toD μ n) (oRs qs)).map PyData.tuple = none
    rw [toDs_no (List.mem_map.mpr ⟨q, hq, rfl⟩) no_obj]
    rfl
theorem ne_no {y : MV} (h : toD μ 40 x = none) : cmpM μ .NotEq x y = none := by
  simp only [cmpM, eqM, h, Option.map_none]
theorem so_obj {T' : Tab} {n : Nat} (h : ∃ j, T' = T (j + 1)) : sameO T' μ (n + 1) (oR q) (oR q) := by
  obtain ⟨j, rfl⟩ := h
  have e := eq_ok (μ := μ) (p := q) (q := q) j
  refine ⟨rfl, 10, meT me4_eq, ?_⟩
  rw [decide_eq_true rfl] at e
  exact e
theorem so_tup {T' : Tab} {n : Nat} {xs : List MV} (h : ∀ x ∈ xs, sameO T' μ n x x) : sameO T' μ (n + 1) (.tup xs) (.tup xs) := by
  refine ⟨rfl, fun i x y h1 h2 => ?_⟩
  rw [h1] at h2
  cases h2
  exact h x (List.mem_of_getElem? h1)
theorem so_ref {T' : Tab} {n a b : Nat} {xs : List MV} (h1 : μ[a]? = some (.lst xs)) (h2 : μ[b]? = some (.lst xs)) (h : ∀ x ∈ xs, sameO T' μ n x x) : sameO T' μ (n + 1) (.ref a) (.ref b) := by
  refine ⟨xs, xs, h1, h2, rfl, fun i x y h1 h2 => ?_⟩
  rw [h1] at h2
  cases h2
  exact h x (List.mem_of_getElem? h1)
theorem so_str {T' : Tab} {n : Nat} {a : Str} : sameO T' μ (n + 1) (.str a) (.str a) := by
  show _ ∧ _ ∧ _
  exact ⟨rfl, rfl, by simp [eqF]⟩
theorem rrs_dash (k : Nat) : (T (k + 1)).call 28 [.str "-"] μ = .ok (.tup []) μ := by
  rw [run28]
  refine R.To.is (runD_to rfl rfl ?_)
  have e4 : slots d28 [MV.str "-"] = [some (.str "-"), none] := rfl
  rw [e4, show d28.body = .ite (.not (.isin (.var 0) [.str])) [.raise 3 [(.int 0)]] [] :: .ite (.ocmp .Eq (.var 0) (.str "-")) [.ret (.tup [])] [] :: d28.body.drop 2 from rfl]
  have ty : tysM prog μ (.str "-") [.str] = some true := rfl
  have c0 : cmpM μ .Eq (.str "-") (.str "-") = some true := by
    rw [cmp_eqs (by decide +kernel) (by decide +kernel)]
    simp
  rw [B_cons, S_ite]
  simp only [E_not, E_isin, E_var0, bind_ok', TP, ty, opt_some, tru_bl, Bool.not_true, stm_ok', Bool.false_eq_true, if_false]
  rw [B_nil, go_next, B_cons, S_ite]
  simp only [E_ocmp, E_var0, E_str, bind_ok', cmpT_str, c0, opt_some, tru_bl, stm_ok', if_true, B_cons, S_ret, E_tup, Es_nil, newT0, go_ret, STo_ok, retT_ret]
  exact ⟨by trivial, by trivial⟩
theorem t11 (k : Nat) (C : Cx σ ν i qs) (h5 : Has σ 5 (.str (txt qs))) : Tail k 11 σ ν := by
  show (evB (T (k + 12)) (d40.body.drop 11) σ ν).To _
  have hd : d40.body.drop 11 = .ite (.or (.not (.call 33 [(.call 26 [(.var 8)]), (.var 5)])) (.or (.ocmp .NotEq (.call 26 [(.tup [])]) (.str "-")) (.or (.ocmp .NotEq (.call 38 [(.fn 28), (.var 5)]) (.tup [(.str "told"), (.var 8)])) (.ocmp .NotEq (.call 38 [(.fn 28), (.str "-")]) (.tup [(.str "told"), (.tup [])]))))) [.ret (.bl false)] [] :: d40.body.drop 12 := rfl
  obtain ⟨ν1, g1, e1⟩ := text_run (μ := ν) (k + 10) C.q1 C.n5
  rw [if_neg C.n1] at e1
  have e1 : (T (k + 12)).call 26 [.tup (oRs qs)] ν = .ok (.str (txt qs)) ν1 := e1
  have e2 := law_same_str (μ := ν1) (k + 11) (x := txt qs) (y := txt qs) txt_ok txt_ok
  rw [decide_eq_true rfl] at e2
  have e2 : (T (k + 12)).call 33 [.str (txt qs), .str (txt qs)] ν1 = .ok (.bl true) ν1 := e2
  obtain ⟨ν2, g2, e3⟩ := text_run (μ := ν1) (qs := []) (k + 10) (by simp) (by simp)
  have e3 : (T (k + 12)).call 26 [.tup []] ν1 = .ok (.str "-") ν2 := e3
  have hlen := txt_len C.q1 C.n5
  obtain ⟨ν3, g3, e4⟩ := rrs_run (p := txt qs) (μ := ν2) (k + 5) (by omega) txt_ok (txt_dash C.q1 C.n1) fun w hw => by
    rw [txt_parts C.q1 C.n1] at hw
    obtain ⟨q, hq, rfl⟩ := List.mem_map.mp hw
    exact ⟨by have := (C.q1 q hq).text.1; omega, by rw [(C.q1 q hq).back]; rfl⟩
  rw [txt_parts C.q1 C.n1, if_pos (txt_vals C.q1).2, (txt_vals C.q1).1] at e4
  have e4 : (T (k + 10)).call 28 [.str (txt qs)] ν2 = .ok (.tup (oRs qs)) ν3 := e4
  have e5 := read_run (k + 10) 28 e4 (by show R.ok _ _ ≠ _; intro z; cases z)
  have e5 : (T (k + 12)).call 38 [.fn 28, .str (txt qs)] ν2 = .ok (.tup [.str "told", .tup (oRs qs)]) ν3 := e5
  have e6 := read_run (k + 10) 28 (rrs_dash (μ := ν3) (k + 9)) (by show R.ok _ _ ≠ _; intro z; cases z)
  have e6 : (T (k + 12)).call 38 [.fn 28, .str "-"] ν3 = .ok (.tup [.str "told", .tup []]) ν3 := e6
  obtain ⟨q, hq, _⟩ := row0 (μ := ν) C
  have k1 : cmpT (T (k + 12)) ν3 .NotEq (.tup [.str "told", .tup (oRs qs)]) (.tup [.str "told", .tup (oRs qs)]) = .ok false ν3 := by
    refine cmpT_tupO (ne_no ?_) rfl (so_tup fun x hx => ?_)
    · show (toDs (toD ν3 39) [.str "told", .tup (oRs qs)]).map PyData.tuple = none
      rw [toDs_no (x := .tup (oRs qs)) (by simp) (no_row hq)]
      rfl
    · simp only [List.mem_cons, List.not_mem_nil, or_false] at hx
      rcases hx with rfl | rfl
      · exact so_str
      · refine so_tup fun x hx => ?_
        obtain ⟨q, _, rfl⟩ := List.mem_map.mp hx
        exact so_obj ⟨k + 11, rfl⟩
  have k2 : cmpT (T (k + 12)) ν3 .NotEq (.tup [.str "told", .tup []]) (.tup [.str "told", .tup []]) = .ok false ν3 := by
    refine cmpT_tup ?_
    have hd : ∃ d, toD ν3 40 (.tup [.str "told", .tup []]) = some d := ⟨_, by simp only [toD, toDs, ok_told, if_true, Option.map_some]; rfl⟩
    obtain ⟨d, hd⟩ := hd
    simp only [cmpM, eq_self hd, Option.map_some, Bool.not_true]
  rw [hd, B_cons, S_ite, E_or, E_not, E_call]
  simp only [Es_cons, Es_nil, E_call, C.h8.ev, bind_ok', e1, h5.ev, e2, tru_bl, Bool.not_true, Bool.false_eq_true, if_false]
  rw [E_or, E_ocmp]
  simp only [Es_cons, Es_nil, E_call, E_tup, newT0, bind_ok', e3, E_str, cmpT_str, ne_str (show PyData.strOk ("-" : Str) = true by decide +kernel), opt_some, tru_bl, Bool.false_eq_true, if_false]
  rw [E_or, E_ocmp]
  simp only [Es_cons, Es_nil, E_call, E_fn, E_tup, E_str, h5.ev, C.h8.ev, newT2, bind_ok', e5, k1, tru_bl, Bool.false_eq_true, if_false]
  rw [E_ocmp]
  simp only [Es_cons, Es_nil, E_call, E_fn, E_tup, E_str, newT0, newT2, bind_ok', e6, k2, stm_ok', tru_bl, Bool.false_eq_true, if_false, B_nil, go_next]
  exact t12 k (C.grow ((g1.trans g2).trans g3)) h5
theorem t10 (k : Nat) (C : Cx σ ν i qs) : Tail k 10 σ ν := by
  show (evB (T (k + 12)) (d40.body.drop 10) σ ν).To _
  have hd : d40.body.drop 10 = .asg (.var 5) (.mth .join (.str ",") [(.comp (.ostr (.var 13)) (.var 13) (.var 8) (.bl true) [13])]) :: d40.body.drop 11 := rfl
  have hj := join_run (μ := ν) (a := 8) (b := 13) (k + 11) (by rw [C.L]; decide) C.h8 C.q1 C.n5
  have hj : evE (T (k + 12)) (.mth .join (.str ",") [(.comp (.ostr (.var 13)) (.var 13) (.var 8) (.bl true) [13])]) σ ν = _ := hj
  rw [hd, B_cons, S_asg, hj]
  simp only [stm_ok', A_var, calm_ok', go_next]
  exact t11 k ((C.set (by decide) (by decide)).grow (Grow.app _ _ _)) (C.self (by decide))
end
end Mch.k02

/-! ## k02: the law: its beginning -/
namespace Mch.k02
open PySem L2 TL Mch
section
variable {σ : Env} {ν μ : Mem} {qs rs : List Rat} {v x : MV} {i : Nat} {q : Rat}
/-! ### ratios of what is none -/
abbrev malf : MV := .str "malformed"
abbrev badE : E := .tup [.non, (.int 5), (.tup [.non]), (.tup [(.bl true)]), (.tup [(.str "1")]), (.dic [(1, 2)])]
abbrev badC : E := .comp (.idx (.call 35 [(.fn 22), (.tup [(.var 20)])]) (.int 0)) (.var 20) badE (.bl true) [20]
def bads : List MV := [.non, .int 5, .tup [.non], .tup [.bl true], .tup [.str "1"], .dic [(1, 2)]]
theorem rats_all (k : Nat) (hx : x ∈ bads) : ∃ ν, Grow [] μ ν ∧ (T (k + 3)).call 22 [x] μ = .exc ⟨1, []⟩ ν := by
  have tup : ∀ z, flatM z = true → isIntM z = false → rz z = none → ∃ ν, Grow [] μ ν ∧ (T (k + 3)).call 22 [.tup [z]] μ = .exc ⟨1, []⟩ ν := fun z h1 h2 h3 => by
    obtain ⟨ν, g, e⟩ := rats_run (μ := μ) (v := .tup [z]) (xs := [z]) k rfl rfl (by show 1 ≤ 100; decide) fun x hx => by
      have : x = z := by simpa using hx
      subst this
      exact .inr (.inr ⟨h1, h2⟩)
    refine ⟨ν, g, ?_⟩
    rw [e, if_neg (by simp [h3])]
  simp only [bads, List.mem_cons, List.not_mem_nil, or_false] at hx
  rcases hx with rfl | rfl | rfl | rfl | rfl | rfl
  · exact ⟨μ, Grow.refl _ _, rats_bad (k + 2) rfl⟩
  · exact ⟨μ, Grow.refl _ _, rats_bad (k + 2) rfl⟩
  · exact tup _ rfl rfl rfl
  · exact tup _ rfl rfl rfl
  · exact tup _ rfl rfl rfl
  · exact ⟨μ, Grow.refl _ _, rats_bad (k + 2) rfl⟩
theorem t9 (k : Nat) (C : Cx σ ν i qs) : Tail k 9 σ ν := by
  show (evB (T (k + 12)) (d40.body.drop 9) σ ν).To _
  have hd : d40.body.drop 9 = .ite (.ocmp .NotEq badC (.obin .Mult (.lst [(.str "malformed")]) (.int 6))) [.ret (.bl false)] [] :: d40.body.drop 10 := rfl
  have hi : evE (T (k + 12)) badE σ ν = .ok (.tup bads) ν := by
    simp only [E_tup, Es_cons, Es_nil, E_non, E_int, E_bl, E_str, E_dic, bind_ok', newT1, newT6]
    rfl
  have hc : (evE (T (k + 12)) badC σ ν).To fun v μ => ∃ m, v = .ref m ∧ lstAt μ m = some [malf, malf, malf, malf, malf, malf] ∧ Grow [] ν μ := by
    refine comp_to (J := .tup bads) (xs := bads) (fun _ => some malf) (by rw [Tn]; decide) (by rw [sl]; decide) hi rfl (fun x μ2 hm gr => ?_) fun μ2 gr => ?_
    · refine ⟨_, by simp only [T_var]; rfl, ?_⟩
      simp only [wipe_cons, wipe_nil, List.set_set]
      have s : Has (σ.set 20 (some x)) 20 x := C.self (by decide)
      obtain ⟨μ3, g3, e3⟩ := rats_all (μ := μ2) (k + 8) hm
      have e3 : (T (k + 11)).call 22 [x] μ2 = .exc ⟨1, []⟩ μ3 := e3
      have e4 := res_run (k + 11) 22 e3 (by show R.ok _ _ ≠ _; intro z; cases z)
      have e4 : (T (k + 12)).call 35 [.fn 22, .tup [x]] μ2 = .ok (.tup [malf, .non]) μ3 := e4
      have i0 : idxM μ3 (.tup [malf, .non]) (.int 0) = some malf := rfl
      unfold turnE
      simp only [E_bl, bind_ok', tru_bl, if_true, E_idx, E_call, Es_cons, Es_nil, E_fn, E_tup, s.ev, newT1, e4, E_int, i0, opt_some, To_ok]
      exact ⟨by trivial, g3⟩
    · exact ⟨_, rfl, lstAt_new, gr.trans (Grow.app _ _ _)⟩
  obtain ⟨r, ν1, e1, m, rfl, hm, g1⟩ := hc.eq
  have hr := rep_run (T := T (k + 12)) (σ := σ) (μ := ν1) (e := .str "malformed") (x := malf) (n := 6) E_str (by decide)
  have hr : evE (T (k + 12)) (.obin .Mult (.lst [(.str "malformed")]) (.int 6)) σ ν1 = _ := hr
  generalize hμ : ν1 ++ [Cell.lst [malf]] = μ2 at hr
  have g2 : Grow [] ν1 (μ2 ++ [.lst (List.replicate 6 malf)]) := by
    rw [← hμ]
    exact (Grow.app _ _ _).trans (Grow.app _ _ _)
  have l1 := g2.lst hm (by simp)
  have l2 : lstAt (μ2 ++ [.lst (List.replicate 6 malf)]) μ2.length = some [malf, malf, malf, malf, malf, malf] := lstAt_new
  have hok : PyData.strOk ("malformed" : Str) = true := by decide +kernel
  have hcm : cmpT (T (k + 12)) (μ2 ++ [.lst (List.replicate 6 malf)]) .NotEq (.ref m) (.ref μ2.length) = .ok false (μ2 ++ [.lst (List.replicate 6 malf)]) := by
    refine cmpT_ref ?_
    have he : eqM (μ2 ++ [.lst (List.replicate 6 malf)]) (.ref m) (.ref μ2.length) = some true := eq_refs l1 l2 fun x hx => by
      have : x = malf := by simpa using hx
      rw [this]
      exact ⟨_, str_d hok⟩
    simp only [cmpM, he, Option.map_some, Bool.not_true]
  rw [hd, B_cons, S_ite, E_ocmp, e1]
  simp only [bind_ok']
  rw [hr]
  simp only [bind_ok']
  rw [hcm]
  simp only [bind_ok', stm_ok', tru_bl, Bool.false_eq_true, if_false, B_nil, go_next]
  exact t10 k (C.grow (g1.trans g2))
/-! ### ratios of rows -/
theorem t8 (k : Nat) {m : Nat} {a : Int} (C : Cx σ ν i qs) (hq : idxM ν (.tup (oRs qs)) (.int 0) = some (oR q)) (ha : a.natAbs < 2 ^ 30) (h4 : Has σ 4 (.ref m)) (hm : lstAt ν m = some [.int a, oR q, .int 0]) : Tail k 8 σ ν := by
  show (evB (T (k + 12)) (d40.body.drop 8) σ ν).To _
  have hd : d40.body.drop 8 = .ite (.or (.ocmp .NotEq (.call 22 [(.var 4)]) (.tup [(.mk 4 [(.idx (.var 4) (.int 0))]), (.idx (.var 8) (.int 0)), (.mk 4 [(.int 0)])])) (.or (.ocmp .NotEq (.call 22 [(.bi .tuple [(.var 4)])]) (.call 22 [(.var 4)])) (.ocmp .NotEq (.call 22 [(.tup [])]) (.tup [])))) [.ret (.bl false)] [] :: d40.body.drop 9 := rfl
  have hx : ∀ x ∈ [MV.int a, oR q, .int 0], (∃ q, x = oR q) ∨ (∃ a : Int, x = .int a ∧ a.natAbs < 2 ^ 30) ∨ (flatM x = true ∧ isIntM x = false) := fun x hx => by
    simp only [List.mem_cons, List.not_mem_nil, or_false] at hx
    rcases hx with rfl | rfl | rfl
    · exact .inr (.inl ⟨a, rfl, ha⟩)
    · exact .inl ⟨q, rfl⟩
    · exact .inr (.inl ⟨0, rfl, by decide⟩)
  have tr : ∀ {μ : Mem}, lstAt μ m = some [.int a, oR q, .int 0] → tysM prog μ (.ref m) [.list, .tuple] = some true := fun h => by simp [tysM, tyM, h]
  let W : MV := .tup [oR (a : Rat), oR q, oR ((0 : Int) : Rat)]
  obtain ⟨ν1, g1, e1⟩ := rats_run (μ := ν) (v := .ref m) (k + 9) (tr hm) hm (by show 3 ≤ 100; decide) hx
  have e1 : (T (k + 12)).call 22 [.ref m] ν = .ok W ν1 := e1
  have hm1 := g1.lst hm (by simp)
  obtain ⟨ν2, g2, e2⟩ := rats_run (μ := ν1) (v := .tup [.int a, oR q, .int 0]) (xs := [.int a, oR q, .int 0]) (k + 9) rfl rfl (by show 3 ≤ 100; decide) hx
  have e2 : (T (k + 12)).call 22 [.tup [.int a, oR q, .int 0]] ν1 = .ok W ν2 := e2
  have hm2 := g2.lst hm1 (by simp)
  obtain ⟨ν3, g3, e3⟩ := rats_run (μ := ν2) (v := .ref m) (k + 9) (tr hm2) hm2 (by show 3 ≤ 100; decide) hx
  have e3 : (T (k + 12)).call 22 [.ref m] ν2 = .ok W ν3 := e3
  obtain ⟨ν4, g4, e4⟩ := rats_run (μ := ν3) (v := .tup []) (xs := []) (k + 9) rfl rfl (by decide) (by simp)
  have e4 : (T (k + 12)).call 22 [.tup []] ν3 = .ok (.tup []) ν4 := e4
  have i4 : idxM ν1 (.ref m) (.int 0) = some (.int a) := by simp [idxM, hm1, ixM]
  have hq1 : idxM ν1 (.tup (oRs qs)) (.int 0) = some (oR q) := hq
  have m1 := mk_int (μ := ν1) (k + 10) (small2 ha (show 30 ≤ 8000 by decide))
  have m1 : (T (k + 12)).make 4 [.int a] ν1 = .ok (oR (a : Rat)) ν1 := m1
  have m2 := mk_int (μ := ν1) (a := 0) (k + 10) (small2 (by decide) (show 30 ≤ 8000 by decide))
  have m2 : (T (k + 12)).make 4 [.int 0] ν1 = .ok (oR ((0 : Int) : Rat)) ν1 := m2
  have t4 : biM ν1 .tuple [.ref m] = .ok (.tup [.int a, oR q, .int 0]) ν1 := by simp only [biM, hm1]
  have same : ∀ μ, cmpT (T (k + 12)) μ .NotEq W W = .ok false μ := fun μ => by
    refine cmpT_tupO (ne_no ?_) rfl (so_tup fun x hx => ?_)
    · show (toDs (toD μ 39) [oR (a : Rat), oR q, oR ((0 : Int) : Rat)]).map PyData.tuple = none
      rw [toDs_no (x := oR q) (by simp) no_obj]
      rfl
    · simp only [List.mem_cons, List.not_mem_nil, or_false] at hx
      rcases hx with rfl | rfl | rfl <;> exact so_obj ⟨k + 11, rfl⟩
  have k4 : cmpT (T (k + 12)) ν4 .NotEq (.tup []) (.tup []) = .ok false ν4 := by
    refine cmpT_tup ?_
    have hd : ∃ d, toD ν4 40 (.tup []) = some d := ⟨_, by simp only [toD, toDs, Option.map_some]; rfl⟩
    obtain ⟨d, hd⟩ := hd
    simp only [cmpM, eq_self hd, Option.map_some, Bool.not_true]
  have p1 : evE (T (k + 12)) (.tup [(.mk 4 [(.idx (.var 4) (.int 0))]), (.idx (.var 8) (.int 0)), (.mk 4 [(.int 0)])]) σ ν1 = .ok W ν1 := by
    rw [E_tup]
    simp only [Es_cons, Es_nil, E_mk, E_idx, h4.ev, C.h8.ev, E_int, bind_ok', i4, hq1, opt_some, m1, m2, newT3]
    rfl
  rw [hd, B_cons, S_ite, E_or, E_ocmp, E_call]
  simp only [Es_cons, Es_nil, h4.ev, bind_ok', e1, p1, same, tru_bl, Bool.false_eq_true, if_false]
  rw [E_or, E_ocmp, E_call]
  simp only [Es_cons, Es_nil, E_call, E_bi, h4.ev, bind_ok', t4, e2, e3, same, tru_bl, Bool.false_eq_true, if_false]
  rw [E_ocmp, E_call]
  simp only [Es_cons, Es_nil, E_tup, newT0, bind_ok', e4, k4, stm_ok', tru_bl, Bool.false_eq_true, if_false, B_nil, go_next]
  exact t9 k (C.grow (((g1.trans g2).trans g3).trans g4))
theorem t7 (k : Nat) (C : Cx σ ν i qs) : Tail k 7 σ ν := by
  show (evB (T (k + 12)) (d40.body.drop 7) σ ν).To _
  have hd : d40.body.drop 7 = .asg (.var 4) (.lst [(.obin .Sub (.call 30 [(.var 1), (.int 9)]) (.int 4)), (.idx (.var 8) (.int 0)), (.int 0)]) :: d40.body.drop 8 := rfl
  obtain ⟨r, ν1, e1, y, rfl, y1, y2, s1, g1⟩ := (take_to (d := k + 11) C.h1 C.hS (show (0 : Int) < 9 ∧ (9 : Int) < 1073741824 by decide)).eq
  have e1 : evE (T (k + 12)) (.call 30 [.var 1, .int 9]) σ ν = .ok (.int y) ν1 := e1
  obtain ⟨q, _, hq⟩ := row0 (μ := ν1) C
  have nl : newL [.int (y - 4), oR q, .int 0] ν1 = .ok (.ref ν1.length) (ν1 ++ [.lst [.int (y - 4), oR q, .int 0]]) := newL_ok' (by show 3 ≤ sizeLine; decide)
  rw [hd, B_cons, S_asg, E_lst]
  simp only [Es_cons, Es_nil, E_obin, e1, E_int, bind_ok', binT_int, bin_sub, E_idx, C.h8.ev, hq, opt_some, nl, stm_ok', A_var, calm_ok', go_next]
  have C1 := ((C.upd s1).grow (Grow.app _ _ [.lst [.int (y - 4), oR q, .int 0]])).set (j := 4) (o := some (.ref ν1.length)) (by decide) (by decide)
  exact t8 k C1 hq (by omega) (C.self (by decide)) lstAt_new
/-! ### is_ratio_row -/
def vals (m : Nat) (qs : List Rat) : List MV := [.tup (oRs qs), .ref m, .tup [], .tup [oR (1 : Rat), .int 1], .tup [.non], .non, .int 5, .str "x", .tup [.tup (oRs qs)]]
theorem row_V {m : Nat} {xs : List MV} (hm : lstAt μ m = some xs) (hn : qs.length ≤ 5) (hx : x ∈ vals m qs) : RowV μ x := by
  simp only [vals, List.mem_cons, List.not_mem_nil, or_false] at hx
  have one : ∀ z, tysM prog μ z [.cls 4] = some (isOb z) → RowV μ (.tup [z]) := fun z h => ⟨by show 1 ≤ 100; decide, fun x hx => by
    have : x = z := by simpa using hx
    rw [this]
    exact h⟩
  rcases hx with rfl | rfl | rfl | rfl | rfl | rfl | rfl | rfl | rfl
  · refine ⟨by rw [List.length_map]; omega, fun x hx => ?_⟩
    obtain ⟨q, _, rfl⟩ := List.mem_map.mp hx
    exact ty_rat
  · exact ⟨xs, hm⟩
  · exact ⟨by decide, by simp⟩
  · refine ⟨by decide, fun x hx => ?_⟩
    simp only [List.mem_cons, List.not_mem_nil, or_false] at hx
    rcases hx with rfl | rfl
    · exact ty_rat
    · rfl
  · exact one _ rfl
  · trivial
  · trivial
  · trivial
  · exact one _ rfl
abbrev vs0 : S := .asg (.var 15) (rowE 3 13)
abbrev vs1 : S := .ite (.not (.call 31 [(.call 21 [(.var 3)]), (.var 15)])) [.ret (.bl false)] []
theorem val_run (k : Nat) (C : Cx σ ν i qs) (h3 : Has σ 3 x) (hv : ∀ μ, Grow [] ν μ → RowV μ x) : (evB (T (k + 12)) [vs0, vs1] σ ν).To fun f μ => ∃ σ', f = .next σ' ∧ Cx σ' μ i qs ∧ Grow [] ν μ := by
  obtain ⟨ν1, g1, e1⟩ := row_run (a := 3) (b := 13) (k + 12) (by rw [C.L]; decide) (by decide) h3 (hv ν (Grow.refl _ _))
  have C1 := (C.set (j := 15) (o := some (.bl (rowB x))) (by decide) (by decide)).grow g1
  have k3 : Has (σ.set 15 (some (.bl (rowB x)))) 3 x := h3.ne (by decide)
  have k15 : Has (σ.set 15 (some (.bl (rowB x)))) 15 (.bl (rowB x)) := C.self (by decide)
  obtain ⟨ν2, g2, e2⟩ := is_row (k + 11) (hv ν1 g1)
  have e2 : (T (k + 12)).call 21 [x] ν1 = .ok (.bl (rowB x)) ν2 := e2
  have e3 := law_says (b := rowB x) (c := rowB x) (μ := ν2) (k + 11)
  rw [decide_eq_true rfl] at e3
  have e3 : (T (k + 12)).call 31 [.bl (rowB x), .bl (rowB x)] ν2 = .ok (.bl true) ν2 := e3
  rw [B_cons, S_asg, e1]
  simp only [stm_ok', A_var, calm_ok', go_next]
  rw [B_cons, S_ite, E_not, E_call]
  simp only [Es_cons, Es_nil, E_call, k3.ev, k15.ev, bind_ok', e2, e3, tru_bl, Bool.not_true, stm_ok', Bool.false_eq_true, if_false, B_nil, go_next, STo_ok]
  exact ⟨_, rfl, C1.grow g2, g1.trans g2⟩
theorem t6 (k : Nat) (C : Cx σ ν i qs) : Tail k 6 σ ν := by
  show (evB (T (k + 12)) (d40.body.drop 6) σ ν).To _
  have hd : d40.body.drop 6 = .for (.var 3) (.lst [(.var 8), (.bi .list [(.var 8)]), (.tup []), (.tup [(.mk 4 [(.int 1)]), (.int 1)]), (.tup [.non]), .non, (.int 5), (.str "x"), (.tup [(.var 8)])]) [vs0, vs1] :: d40.body.drop 7 := rfl
  have nl : biM ν .list [.tup (oRs qs)] = .ok (.ref ν.length) (ν ++ [.lst (oRs qs)]) := newL_ok' (by have := C.n5; rw [sl, List.length_map]; omega)
  have m1 : (T (k + 12)).make 4 [.int 1] (ν ++ [.lst (oRs qs)]) = .ok (oR (1 : Rat)) (ν ++ [.lst (oRs qs)]) := mko (k + 10)
  have hl : evE (T (k + 12)) (.lst [(.var 8), (.bi .list [(.var 8)]), (.tup []), (.tup [(.mk 4 [(.int 1)]), (.int 1)]), (.tup [.non]), .non, (.int 5), (.str "x"), (.tup [(.var 8)])]) σ ν = .ok (.ref (ν ++ [Cell.lst (oRs qs)]).length) (ν ++ [.lst (oRs qs)] ++ [.lst (vals ν.length qs)]) := by
    rw [E_lst]
    simp only [Es_cons, Es_nil, C.h8.ev, E_bi, bind_ok', nl, E_tup, newT0, E_mk, E_int, m1, newT2, E_non, newT1, E_str]
    exact newL_ok' (xs := vals ν.length qs) (by show 9 ≤ sizeLine; decide)
  generalize hμ : ν ++ [Cell.lst (oRs qs)] = μ at hl
  have g0 : Grow [] ν (μ ++ [.lst (vals ν.length qs)]) := by
    rw [← hμ]
    exact (Grow.app _ _ _).trans (Grow.app _ _ _)
  have l0 : lstAt (μ ++ [.lst (vals ν.length qs)]) ν.length = some (oRs qs) := by
    refine Grow.lst (e := []) (Grow.app _ _ _) ?_ (by simp)
    rw [← hμ]
    exact lstAt_new
  have l1 : items (μ ++ [.lst (vals ν.length qs)]) (.ref μ.length) = some (vals ν.length qs) := lstAt_new
  rw [hd, B_cons, S_for, hl]
  simp only [stm_ok', itM_items l1]
  refine RS.To.go ?_
  refine forL_to (xs := vals ν.length qs) (I := fun m σ' ν' => Cx σ' ν' i qs ∧ Grow [] (μ ++ [.lst (vals ν.length qs)]) ν') (fun m σ' ν' hI => nth_items (hI.2.items l1) m) (fun m x σ' ν' hx hI => ?_) (fun σ' ν' hI => ?_) _ 0 _ _ (Nat.zero_le _) (by rw [Tn]; show 9 < 100000 + 0; decide) ⟨C.grow g0, Grow.refl _ _⟩
  · obtain ⟨C', g'⟩ := hI
    refine ⟨_, by simp only [T_var]; rfl, ?_⟩
    refine (val_run k (C'.set (j := 3) (o := some x) (by decide) (by decide)) (C'.self (by decide)) fun μ2 g2 => row_V ((g'.trans g2).lst l0 (by simp)) C.n5 (List.mem_of_getElem? hx)).imp fun f μ2 hf => ?_
    obtain ⟨σ2, rfl, z1, z2⟩ := hf
    exact ⟨z1, g'.trans z2⟩
  · rw [goT_next]
    exact t7 k hI.1
/-! ### sums and products -/
theorem t5 (k : Nat) (C : Cx σ ν i qs) (r1 : ∀ q ∈ rs, InQ q) (h9 : Has σ 9 (.tup (oRs rs))) (h10 : Has σ 10 (oR (Sm qs))) (h11 : Has σ 11 (oR (Pr qs))) (h12 : Has σ 12 (oR (Sm (Ml qs rs)))) : Tail k 5 σ ν := by
  show (evB (T (k + 12)) (d40.body.drop 5) σ ν).To _
  have hd : d40.body.drop 5 = .ite (.ocmp .NotEq (.lst [(.call 23 [(.var 8)]), (.call 23 [(.bi .list [(.var 8)])]), (.call 24 [(.var 8)]), (.call 25 [(.var 8), (.var 9)]), (.call 23 [(.tup [])]), (.call 24 [(.tup [])])]) (.lst [(.var 10), (.var 10), (.var 11), (.var 12), (.mk 4 [(.int 0)]), (.mk 4 [(.int 1)])])) [.ret (.bl false)] [] :: d40.body.drop 6 := rfl
  have b1 : ∀ q ∈ qs, Bd 30 q := fun q hq => (C.q1 q hq).bd
  have b2 : ∀ q ∈ rs, Bd 30 q := fun q hq => (r1 q hq).bd
  have n5 := C.n5
  have nl : biM ν .list [.tup (oRs qs)] = .ok (.ref ν.length) (ν ++ [.lst (oRs qs)]) := newL_ok' (by rw [sl, List.length_map]; omega)
  generalize hμ1 : ν ++ [Cell.lst (oRs qs)] = ν1 at nl
  have l1 : items ν1 (.ref ν.length) = some (oRs qs) := by
    rw [← hμ1]
    exact lstAt_new
  have g1 : Grow [] ν ν1 := by
    rw [← hμ1]
    exact Grow.app _ _ _
  have s1 : (T (k + 12)).call 23 [.tup (oRs qs)] ν = .ok (oR (Sm qs)) ν := sum_ok (k + 8) rfl b1 (by omega) (by decide)
  have s2 : (T (k + 12)).call 23 [.ref ν.length] ν1 = .ok (oR (Sm qs)) ν1 := sum_ok (k + 8) l1 b1 (by omega) (by decide)
  have s3 : (T (k + 12)).call 24 [.tup (oRs qs)] ν1 = .ok (oR (Pr qs)) ν1 := prod_ok (k + 8) rfl b1 (by omega) (by decide)
  obtain ⟨ν2, g2, s4⟩ := dot_ok (μ := ν1) (k + 7) b1 b2 (by omega) (by decide)
  have s4 : (T (k + 12)).call 25 [.tup (oRs qs), .tup (oRs rs)] ν1 = .ok (oR (Sm (Ml qs rs))) ν2 := s4
  have s5 : (T (k + 12)).call 23 [.tup []] ν2 = .ok (oR (0 : Rat)) ν2 := sum_ok (qs := []) (B := 1) (k + 8) rfl (by simp) (by decide) (by decide)
  have s6 : (T (k + 12)).call 24 [.tup []] ν2 = .ok (oR (1 : Rat)) ν2 := prod_ok (qs := []) (B := 1) (k + 8) rfl (by simp) (by decide) (by decide)
  let W : List MV := [oR (Sm qs), oR (Sm qs), oR (Pr qs), oR (Sm (Ml qs rs)), oR (0 : Rat), oR (1 : Rat)]
  have n1 : newL W ν2 = .ok (.ref ν2.length) (ν2 ++ [.lst W]) := newL_ok' (by show 6 ≤ sizeLine; decide)
  have L1 : evE (T (k + 12)) (.lst [(.call 23 [(.var 8)]), (.call 23 [(.bi .list [(.var 8)])]), (.call 24 [(.var 8)]), (.call 25 [(.var 8), (.var 9)]), (.call 23 [(.tup [])]), (.call 24 [(.tup [])])]) σ ν = .ok (.ref ν2.length) (ν2 ++ [.lst W]) := by
    rw [E_lst]
    simp only [Es_cons, Es_nil, E_call, C.h8.ev, h9.ev, E_bi, E_tup, newT0, bind_ok', s1, nl, s2, s3, s4, s5, s6]
    exact n1
  have m0 : (T (k + 12)).make 4 [.int 0] (ν2 ++ [.lst W]) = .ok (oR (0 : Rat)) (ν2 ++ [.lst W]) := mkz (k + 10)
  have m1 : (T (k + 12)).make 4 [.int 1] (ν2 ++ [.lst W]) = .ok (oR (1 : Rat)) (ν2 ++ [.lst W]) := mko (k + 10)
  have L2 : evE (T (k + 12)) (.lst [(.var 10), (.var 10), (.var 11), (.var 12), (.mk 4 [(.int 0)]), (.mk 4 [(.int 1)])]) σ (ν2 ++ [.lst W]) = .ok (.ref (ν2 ++ [Cell.lst W]).length) (ν2 ++ [.lst W] ++ [.lst W]) := by
    rw [E_lst]
    simp only [Es_cons, Es_nil, h10.ev, h11.ev, h12.ev, E_mk, E_int, bind_ok', m0, m1]
    exact newL_ok' (by show 6 ≤ sizeLine; decide)
  have c1 : (ν2 ++ [.lst W] ++ [.lst W])[ν2.length]? = some (.lst W) := by
    rw [List.getElem?_append_left (by simp)]
    exact get_new
  have c2 : (ν2 ++ [.lst W] ++ [.lst W])[(ν2 ++ [Cell.lst W]).length]? = some (.lst W) := get_new
  have hcm : cmpT (T (k + 12)) (ν2 ++ [.lst W] ++ [.lst W]) .NotEq (.ref ν2.length) (.ref (ν2 ++ [Cell.lst W]).length) = .ok false (ν2 ++ [.lst W] ++ [.lst W]) := by
    refine cmpT_refO (ne_no ?_) rfl (so_ref c1 c2 fun x hx => ?_)
    · have : lstAt (ν2 ++ [.lst W] ++ [.lst W]) ν2.length = some W := by
        unfold lstAt
        rw [c1]
      show (match lstAt (ν2 ++ [.lst W] ++ [.lst W]) ν2.length with
        | some xs => (toDs (toD (ν2 ++ [.lst W] ++ [.lst W]) 39) xs).map PyData.list
        | none => none) = none
      rw [this]
      show (toDs (toD _ 39) W).map PyData.list = none
      rw [toDs_no (x := oR (0 : Rat)) (by simp [W]) no_obj]
      rfl
    · have : ∃ q, x = oR q := by
        simp only [W, List.mem_cons, List.not_mem_nil, or_false] at hx
        rcases hx with rfl | rfl | rfl | rfl | rfl | rfl <;> exact ⟨_, rfl⟩
      obtain ⟨q, rfl⟩ := this
      exact so_obj ⟨k + 11, rfl⟩
  rw [hd, B_cons, S_ite, E_ocmp, L1]
  simp only [bind_ok']
  rw [L2]
  simp only [bind_ok']
  rw [hcm]
  simp only [bind_ok', stm_ok', tru_bl, Bool.false_eq_true, if_false, B_nil, go_next]
  exact t6 k (C.grow ((g1.trans g2).trans ((Grow.app _ _ _).trans (Grow.app _ _ _))))
theorem t4 (k : Nat) (C : Cx σ ν i qs) (r1 : ∀ q ∈ rs, InQ q) (rl : rs.length = qs.length) (h9 : Has σ 9 (.tup (oRs rs))) (h10 : Has σ 10 (oR (0 : Rat))) (h11 : Has σ 11 (oR (1 : Rat))) (h12 : Has σ 12 (oR (0 : Rat))) : Tail k 4 σ ν := by
  show (evB (T (k + 12)) (d40.body.drop 4) σ ν).To _
  have hd : d40.body.drop 4 = .for (.tup [(.var 13), (.var 14)]) (.zip (.var 8) (.var 9)) [.asg (.tup [(.var 10), (.var 11), (.var 12)]) (.tup [(.obin .Add (.var 10) (.var 13)), (.obin .Mult (.var 11) (.var 13)), (.obin .Add (.var 12) (.obin .Mult (.var 13) (.var 14)))])] :: d40.body.drop 5 := rfl
  have b1 : ∀ q ∈ qs, Bd 30 q := fun q hq => (C.q1 q hq).bd
  have b2 : ∀ q ∈ rs, Bd 30 q := fun q hq => (r1 q hq).bd
  have n5 := C.n5
  have hz : evE (T (k + 12)) (.zip (.var 8) (.var 9)) σ ν = .ok (.zp (.tup (oRs qs)) (.tup (oRs rs))) ν := by
    simp only [E_zip, C.h8.ev, h9.ev, bind_ok', zipM]
  have pl : (prs qs rs).length = qs.length := by
    unfold prs
    rw [List.length_map, List.length_zip]
    omega
  have ml : (Ml qs rs).length = qs.length := by
    unfold Ml
    rw [List.length_map, List.length_zip]
    omega
  rw [hd, B_cons, S_for, hz]
  simp only [stm_ok', itM_items (zip_items (μ := ν) (qs := qs) (rs := rs))]
  refine RS.To.go ?_
  refine forL_to (xs := prs qs rs) (I := fun m σ' ν' => Cx σ' ν' i qs ∧ Has σ' 9 (.tup (oRs rs)) ∧ Has σ' 10 (oR (Sm (qs.take m))) ∧ Has σ' 11 (oR (Pr (qs.take m))) ∧ Has σ' 12 (oR (Sm ((Ml qs rs).take m)))) (fun m σ' ν' hI => nth_items zip_items m) (fun m x σ' ν' hx hI => ?_) (fun σ' ν' hI => ?_) _ 0 _ _ (Nat.zero_le _) (by rw [Tn, pl]; omega) ⟨C, h9, h10, h11, h12⟩
  · obtain ⟨C', k9, k10, k11, k12⟩ := hI
    have hlt : m < qs.length := by
      have := (List.getElem?_eq_some_iff.mp hx).1
      omega
    unfold prs at hx
    rw [List.getElem?_map] at hx
    obtain ⟨p, hp, rfl⟩ := Option.map_eq_some_iff.mp hx
    have hq : qs[m]? = some p.1 ∧ rs[m]? = some p.2 := by
      rw [List.getElem?_zip_eq_some] at hp
      exact hp
    have hM : (Ml qs rs)[m]? = some (p.1 * p.2) := by
      unfold Ml
      rw [List.getElem?_map, hp]
      rfl
    have m1 := b1 _ (List.mem_of_getElem? hq.1)
    have m2 := b2 _ (List.mem_of_getElem? hq.2)
    refine ⟨(σ'.set 13 (some (oR p.1))).set 14 (some (oR p.2)), by simp only [bindT, bindT.go, List.length_cons, List.length_nil, if_true, Option.bind_some], ?_⟩
    have C1 := C'.set (j := 13) (o := some (oR p.1)) (by decide) (by decide)
    have C2 := C1.set (j := 14) (o := some (oR p.2)) (by decide) (by decide)
    have w13 : Has ((σ'.set 13 (some (oR p.1))).set 14 (some (oR p.2))) 13 (oR p.1) := (C'.self (by decide)).ne (by decide)
    have w14 : Has ((σ'.set 13 (some (oR p.1))).set 14 (some (oR p.2))) 14 (oR p.2) := C1.self (by decide)
    have w9 : Has ((σ'.set 13 (some (oR p.1))).set 14 (some (oR p.2))) 9 _ := (k9.ne (by decide)).ne (by decide)
    have w10 : Has ((σ'.set 13 (some (oR p.1))).set 14 (some (oR p.2))) 10 _ := (k10.ne (by decide)).ne (by decide)
    have w11 : Has ((σ'.set 13 (some (oR p.1))).set 14 (some (oR p.2))) 11 _ := (k11.ne (by decide)).ne (by decide)
    have w12 : Has ((σ'.set 13 (some (oR p.1))).set 14 (some (oR p.2))) 12 _ := (k12.ne (by decide)).ne (by decide)
    generalize (σ'.set 13 (some (oR p.1))).set 14 (some (oR p.2)) = σ2 at *
    have z1 : (30 + 1) * m ≤ 31 * 5 := Nat.mul_le_mul (by omega) (by omega)
    have z2 : 30 * m ≤ 30 * 5 := Nat.mul_le_mul (by omega) (by omega)
    have z3 : (30 + 30 + 1) * m ≤ 61 * 5 := Nat.mul_le_mul (by omega) (by omega)
    have e1 : evE (T (k + 12)) (.obin .Add (.var 10) (.var 13)) σ2 ν' = .ok (oR (Sm (qs.take (m + 1)))) ν' := by
      rw [Sm_take hq.1]
      exact e_add (j := k + 9) (w10.ev _ _) (w13.ev _ _) (Sm_bd b1 m (by omega)) m1 (by omega)
    have e2 : evE (T (k + 12)) (.obin .Mult (.var 11) (.var 13)) σ2 ν' = .ok (oR (Pr (qs.take (m + 1)))) ν' := by
      rw [Pr_take hq.1]
      exact e_mul (j := k + 9) (w11.ev _ _) (w13.ev _ _) (Pr_bd b1 m (by omega)) m1 (by omega)
    have e3 : evE (T (k + 12)) (.obin .Add (.var 12) (.obin .Mult (.var 13) (.var 14))) σ2 ν' = .ok (oR (Sm ((Ml qs rs).take (m + 1)))) ν' := by
      rw [Sm_take hM]
      exact e_add (j := k + 9) (w12.ev _ _) (e_mul (j := k + 9) (w13.ev _ _) (w14.ev _ _) m1 m2 (by omega)) (Sm_bd (Ml_bd b1 b2) m (by omega)) (m1.mul m2) (by omega)
    rw [B_cons, S_asg, E_tup]
    simp only [Es_cons, Es_nil, e1, e2, e3, bind_ok', newT3, stm_ok', A_tup, List.length_cons, List.length_nil, if_true, Ag_cons, Ag_nil, A_var, calm_ok', go_next, B_nil, STo_ok, turnT_next]
    have D1 := C2.set (j := 10) (o := some (oR (Sm (qs.take (m + 1))))) (by decide) (by decide)
    have D2 := D1.set (j := 11) (o := some (oR (Pr (qs.take (m + 1))))) (by decide) (by decide)
    have D3 := D2.set (j := 12) (o := some (oR (Sm ((Ml qs rs).take (m + 1))))) (by decide) (by decide)
    exact ⟨D3, ((w9.ne (by decide)).ne (by decide)).ne (by decide), ((C2.self (by decide)).ne (by decide)).ne (by decide), (D1.self (by decide)).ne (by decide), D2.self (by decide)⟩
  · rw [goT_next]
    obtain ⟨C', k9, k10, k11, k12⟩ := hI
    rw [pl, List.take_length] at k10 k11
    rw [pl, List.take_of_length_le (by omega)] at k12
    exact t5 k C' r1 k9 k10 k11 k12
theorem t3 (k : Nat) (C : Cx σ ν i qs) (r1 : ∀ q ∈ rs, InQ q) (rl : rs.length = qs.length) (h9 : Has σ 9 (.tup (oRs rs))) : Tail k 3 σ ν := by
  show (evB (T (k + 12)) (d40.body.drop 3) σ ν).To _
  have hd : d40.body.drop 3 = .asg (.tup [(.var 10), (.var 11), (.var 12)]) (.tup [(.mk 4 [(.int 0)]), (.mk 4 [(.int 1)]), (.mk 4 [(.int 0)])]) :: d40.body.drop 4 := rfl
  have m0 : (T (k + 12)).make 4 [.int 0] ν = .ok (oR (0 : Rat)) ν := mkz (k + 10)
  have m1 : (T (k + 12)).make 4 [.int 1] ν = .ok (oR (1 : Rat)) ν := mko (k + 10)
  rw [hd, B_cons, S_asg, E_tup]
  simp only [Es_cons, Es_nil, E_mk, E_int, m0, m1, bind_ok', newT3, stm_ok', A_tup, List.length_cons, List.length_nil, if_true, Ag_cons, Ag_nil, A_var, calm_ok', go_next]
  have D1 := C.set (j := 10) (o := some (oR (0 : Rat))) (by decide) (by decide)
  have D2 := D1.set (j := 11) (o := some (oR (1 : Rat))) (by decide) (by decide)
  have D3 := D2.set (j := 12) (o := some (oR (0 : Rat))) (by decide) (by decide)
  exact t4 k D3 r1 rl (((h9.ne (by decide)).ne (by decide)).ne (by decide)) (((C.self (by decide)).ne (by decide)).ne (by decide)) ((D1.self (by decide)).ne (by decide)) (D2.self (by decide))
theorem t2 (k : Nat) {n : Nat} {N : Int} (hN : N = n) (hL : σ.length = 23) (h1 : Has σ 1 (.ref i)) (hS : St i ν) (h2 : Has σ 2 (.int N)) (hn : 1 ≤ n ∧ n ≤ 5) : Tail k 2 σ ν := by
  show (evB (T (k + 12)) (d40.body.drop 2) σ ν).To _
  have hd : d40.body.drop 2 = .asg (.tup [(.var 8), (.var 9)]) (.tup [(.call 37 [(.var 1), (.var 2)]), (.call 37 [(.var 1), (.var 2)])]) :: d40.body.drop 3 := rfl
  obtain ⟨r, ν1, e1, qs, rfl, q1, q2, s1, g1⟩ := (law_num_row (k + 8) hN hS hn.2).eq
  obtain ⟨r, ν2, e2, rs, rfl, r1, r2, s2, g2⟩ := (law_num_row (k + 8) hN s1 hn.2).eq
  have e1 : (T (k + 12)).call 37 [.ref i, .int N] ν = .ok (.tup (oRs qs)) ν1 := e1
  have e2 : (T (k + 12)).call 37 [.ref i, .int N] ν1 = .ok (.tup (oRs rs)) ν2 := e2
  rw [hd, B_cons, S_asg, E_tup]
  simp only [Es_cons, Es_nil, E_call, h1.ev, h2.ev, e1, e2, bind_ok', newT2, stm_ok', A_tup, List.length_cons, List.length_nil, if_true, Ag_cons, Ag_nil, A_var, calm_ok', go_next]
  have C : Cx ((σ.set 8 (some (.tup (oRs qs)))).set 9 (some (.tup (oRs rs)))) ν2 i qs := ⟨by simp only [List.length_set]; exact hL, (h1.ne (by decide)).ne (by decide), s2, (Has.self (by rw [hL]; decide)).ne (by decide), q2, fun z => by rw [z] at q1; simp at q1; omega, by omega⟩
  exact t3 k C r2 (by omega) (Has.self (by rw [List.length_set, hL]; decide))
theorem t1 (k : Nat) (hL : σ.length = 23) (h1 : Has σ 1 (.ref i)) (hS : St i ν) : Tail k 1 σ ν := by
  show (evB (T (k + 12)) (d40.body.drop 1) σ ν).To _
  have hd : d40.body.drop 1 = .asg (.var 2) (.obin .Add (.int 1) (.call 30 [(.var 1), (.int 5)])) :: d40.body.drop 2 := rfl
  obtain ⟨r, ν1, e1, x, rfl, x1, x2, s1, g1⟩ := (take_to (d := k + 11) h1 hS (show (0 : Int) < 5 ∧ (5 : Int) < 1073741824 by decide)).eq
  have e1 : evE (T (k + 12)) (.call 30 [.var 1, .int 5]) σ ν = .ok (.int x) ν1 := e1
  rw [hd, B_cons, S_asg, E_obin]
  simp only [E_int, e1, bind_ok', binT_int, bin_add, stm_ok', A_var, calm_ok', go_next]
  exact t2 k (n := x.toNat + 1) (N := 1 + x) (by omega) (by rw [List.length_set]; exact hL) (h1.ne (by decide)) s1 (Has.self (by rw [hL]; decide)) (by omega)
end
theorem law_run (ns : List Int) (hl : ns.length ≤ 63) : ∃ μ, (tabD prog 100000 40).call 40 [.ref 0] [.frz (ns.map MV.int)] = .ok (.bl true) μ := by
  have h : ((T 40).call 40 [.ref 0] [.frz (ns.map MV.int)]).To fun r _ => r = .bl true := by
    show (runD (T 39) d40 [.ref 0] [.frz (ns.map MV.int)]).To _
    refine runD_to rfl rfl ?_
    have hd : d40.body = .asg (.var 1) (.call 29 [(.var 0)]) :: d40.body.drop 1 := rfl
    rw [hd]
    obtain ⟨r, ν, e, i, rfl, hS, hg⟩ := (law_state 38 (a := 0) (μ := [.frz (ns.map MV.int)]) hl rfl).eq
    have e0 : evE (T 39) (.call 29 [(.var 0)]) (slots d40 [.ref 0]) [.frz (ns.map MV.int)] = .ok (.ref i) ν := by
      simp only [E_call, Es_cons, Es_nil, E_var (σ := slots d40 [.ref 0]) (i := 0) (v := .ref 0) rfl, bind_ok']
      exact e
    simp only [B_cons, S_asg, e0, stm_ok', A_var, calm_ok', go_next]
    refine RS.To.imp (t1 27 (σ := (slots d40 [.ref 0]).set 1 (some (.ref i))) rfl (Has.self (by decide)) hS) fun f ν hf => ?_
    subst hf
    exact retT_ret.mpr rfl
  obtain ⟨r, μ, e, rfl⟩ := h.eq
  exact ⟨μ, e⟩
end Mch.k02

set_option maxHeartbeats 0
/-! ## k02: the law, if the machine's run gives True -/
open PySem PySem.W PySem.Calls PyProof.Rows
theorem Mch.k02.law_if (run : ∀ ns : List Int, ns.length ≤ 63 → (∀ z ∈ ns, Builtin.Int.intBits z ≤ 1048576) → ∃ μ, (Mch.tabD Mch.k02.prog 100000 40).call 40 [.ref 0] [.frz (ns.map Mch.MV.int)] = .ok (.bl true) μ) : PySem.Challenge.rw_tetraroads_k02_whole_rows_and_texts_of_r.Holds := by
  w_on; o_law
  refine HandSHeadRun.head_any (r := OpenLaw.row PySem.Challenge.rw_tetraroads_k02_whole_rows_and_texts_of_r) (q := view (OpenLaw.row PySem.Challenge.rw_tetraroads_k02_whole_rows_and_texts_of_r).prog [33]) (H := Mch.k02.hk) (ob := Mch.k02.obH) (M := 4000) (loose := ["_wall", "Fault", "Malformed", "Refused", "NoText", "is_integer", "common", "MOST_SIGNS", "Ratio", "check_ratio", "is_ratio_row", "ratios", "ratio_sum", "ratio_product", "dot", "ratios_text", "read_ratio", "read_ratios", "_law_state", "_law_take", "_law_says", "_law_is_whole", "_law_same", "_law_common", "_law_result", "_law_num", "_law_num_row", "_law_read", "_law_is_text"]) (d := HandSHeadRun.topDef (OpenLaw.row PySem.Challenge.rw_tetraroads_k02_whole_rows_and_texts_of_r).prog 33) (kwd := []) Mch.k02.obH_eq
    (by kernel_rfl) (fun s => by kernel_rfl) Mch.k02.headRun (by kernel_rfl) (by kernel_rfl) (by kernel_rfl) (by rfl) (by first | assumption | decide +kernel) (by decide +kernel) ⟨rfl, rfl, rfl, rfl, rfl, by decide +kernel⟩ ?hw ?hc
  case hw => w_witness2
  case hc =>
    exact Mch.walk_ofM (S := Mch.k02.Sp) (l := PySem.Challenge.rw_tetraroads_k02_whole_rows_and_texts_of_r) (n := 63) (m := 5) (k := 40) (N := 100000) (li := 40) (x := "script") (F := Mch.k02.f40) rfl (by decide) (by kernel_rfl) ⟨rfl, by decide, by decide⟩ rfl rfl (by kernel_rfl) rfl rfl
      (fun K fd f FD s u => FD.bindsA (ps := ["script"]) (fun _ _ _ _ _ _ us hl => match us, hl with | [_], _ => rfl) s [u] rfl) Mch.k02.allC Mch.k02.allB run

open PySem PySem.W PySem.Calls PyProof.Rows
set_option maxHeartbeats 0 in
theorem PySem.Challenge.cw_tetraroads_k02_whole_rows_and_texts_of_r_holds : PySem.Challenge.rw_tetraroads_k02_whole_rows_and_texts_of_r.Holds := by
  exact Mch.k02.law_if fun ns h _ => Mch.k02.law_run ns h
