import PyProof.Rows.All
import Wide.All
import OpenK.AllK
import Wide.FinOn
import KE.KStateDown
import HandS.ForMost
import HandS.ForExc
import HandS.Flow
import HandS.IsInst
import HandS.Wide
import HandS.TupAny
import HandS.Conv
import HandS.TryMany
import HandS.CallSlots
import HandS.ExcInit
import HandS.ExcField
import HandS.Defaults
import HandS.Head0
import HandS.Head1
import HandS.Head2
import HandS.HeadEnd
import HandS.HeadHook1
import HandS.HeadHook2
import HandS.EndBits
import HandS.Style
import HandS.Words
import PySem.Challenge.RW_tetraroads_k00_whole_integers_of_gluings
set_option Elab.async false
set_option linter.all false
set_option maxRecDepth 100000
/-! ## The machine: a small interpreter of a part of Python, in plain Lean -/
namespace Mch
open PySem

/-- values: tuples and own objects are trees; lists and dicts stand in the memory -/
inductive MV where
  | non | bl (b : Bool) | int (i : Int) | str (x : Str) | tup (xs : List MV) | ref (i : Nat) | obj (c : Nat) (vs : List MV) | fn (f : Nat)
  | rng (lo : Int) (n : Nat) (st : Int) | zp (a b : MV) | en (a : MV) | exn (c : Nat) (vs : List MV)
  deriving Inhabited
inductive Cell where
  | lst (xs : List MV) | frz (xs : List MV) | dct (kvs : List (MV × MV))
abbrev Mem := List Cell
/-- an exception: its class, its fields -/
structure MX where
  c : Nat
  vs : List MV
inductive R (α : Type) where
  | ok (a : α) (μ : Mem) | exc (x : MX) (μ : Mem) | no
def R.bind {α β : Type} : R α → (α → Mem → R β) → R β
  | .ok a μ, f => f a μ
  | .exc x μ, _ => .exc x μ
  | .no, _ => .no
def R.opt {α : Type} (o : Option α) (μ : Mem) : R α := match o with
  | some a => .ok a μ
  | none => .no

/-! ### the syntax -/
inductive TyR where
  | int | bool | str | list | tuple | dict | cls (c : Nat)
  deriving DecidableEq
inductive BI where
  | abs | len | all | any | int | str | tuple | list | sum | min | max
  deriving DecidableEq
inductive Mt where
  | append | join
  deriving DecidableEq
inductive E where
  | non | bl (b : Bool) | int (i : Int) | str (x : Str) | var (i : Nat) | fn (f : Nat) | gc (k : Nat)
  | neg (a : E) | not (a : E) | bin (op : Operator) (a b : E) | cmp (op : CmpOp) (a b : E) | cmp2 (o1 o2 : CmpOp) (a b c : E)
  | and (a b : E) | or (a b : E) | ite (c a b : E) | tup (as : List E) | lst (as : List E)
  | fld (a : E) (f : Str) | xfld (i : Nat) (f : Str) | idx (a b : E) | slc (a lo hi : E)
  | call (f : Nat) (as : List E) | callv (i : Nat) (as : List E) | mk (c : Nat) (as : List E)
  | bi (b : BI) (as : List E) | mth (m : Mt) (o : E) (as : List E) | omth (m : Str) (o : E) (as : List E) | isin (a : E) (ts : List TyR)
  | comp (elt tg it cond : E) (own : List Nat) | comp2 (elt tg it cond tg1 it1 cond1 : E) (own own1 : List Nat)
  | rng (as : List E) | zip (a b : E) | enum (a : E)
inductive S where
  | asg (t e : E) | setf (f : Str) (e : E) | expr (e : E) | ite (c : E) (a b : List S) | while (c : E) (b : List S) | for (t it : E) (b : List S)
  | ret (e : E) | retN | raise (c : Nat) (as : List E) | brk | cnt | pass
  | try1 (b : List S) (c : Nat) (n : Option Nat) (h : List S) | try2 (b : List S) (c : Nat) (n : Option Nat) (h : List S) (c' : Nat) (n' : Option Nat) (h' : List S)
structure ClsM where
  fields : List Str
  init : Option Nat
  meths : List (Str × Nat)
  /-- the classes of the program above it, itself too -/
  up : List Nat := []
  /-- a class of exceptions -/
  exc : Bool := false
structure Def where
  np : Nat
  dfl : List MV
  ns : Nat
  body : List S
structure Prog where
  defs : List Def
  clss : List ClsM
  consts : List MV := []
structure Tab where
  P : Prog
  n : Nat
  call : Nat → List MV → Mem → R MV
  make : Nat → List MV → Mem → R MV
abbrev Env := List (Option MV)

/-! ### values -/
def lstAt (μ : Mem) (i : Nat) : Option (List MV) := match μ[i]? with
  | some (.lst xs) => some xs
  | some (.frz xs) => some xs
  | _ => none
def newL (xs : List MV) (μ : Mem) : R MV := if xs.length ≤ sizeLine then .ok (.ref μ.length) (μ ++ [.lst xs]) else .no
def newT (xs : List MV) (μ : Mem) : R MV := if xs.length ≤ sizeLine then .ok (.tup xs) μ else .no
/-- the place that an index of any sign means -/
def ixM (n : Nat) (i : Int) : Option Nat := if 0 ≤ i then (if i < n then some i.toNat else none) else if -(n : Int) ≤ i then some (i + n).toNat else none
def sIxM (n d : Nat) : Option Int → Nat
  | none => d
  | some v => if v < 0 then (v + (n : Int)).toNat else min v.toNat n
def cutM {α : Type} (xs : List α) (lo hi : Option Int) : List α := (xs.drop (sIxM xs.length 0 lo)).take (sIxM xs.length xs.length hi - sIxM xs.length 0 lo)

/-- the values of a list, by f -/
def toDs (f : MV → Option PyData) : List MV → Option (List PyData)
  | [] => some []
  | x :: xs => match f x, toDs f xs with
    | some d, some ds => some (d :: ds)
    | _, _ => none
/-- a value as data: None, bools, ints, texts, tuples, lists -/
def toD (μ : Mem) : Nat → MV → Option PyData
  | 0, _ => none
  | n + 1, x => match x with
    | .non => some .none
    | .bl b => some (.bool b)
    | .int i => some (.int i)
    | .str s => if PyData.strOk s then some (.str s) else none
    | .tup xs => (toDs (toD μ n) xs).map .tuple
    | .ref i => (match lstAt μ i with
      | some xs => (toDs (toD μ n) xs).map .list
      | none => none)
    | _ => none
def eqM (μ : Mem) (x y : MV) : Option Bool := match toD μ 40 x, toD μ 40 y with
  | some d, some e => some (PyData.eqv d e)
  | _, _ => none
def flatM : MV → Bool
  | .non => true
  | .bl _ => true
  | .int _ => true
  | .str _ => true
  | _ => false
def eqF : MV → MV → Bool
  | .non, .non => true
  | .bl a, .bl b => a == b
  | .bl a, .int b => (if a then 1 else 0) == b
  | .int a, .bl b => a == (if b then 1 else 0)
  | .int a, .int b => a == b
  | .str a, .str b => a == b
  | _, _ => false
def inM (μ : Mem) (x y : MV) : Option Bool :=
  match (match y with
    | .tup xs => some xs
    | .ref i => lstAt μ i
    | _ => none) with
  | some xs => if flatM x && xs.all flatM then some (xs.any fun z => eqF z x) else none
  | none => none
def cmpM (μ : Mem) : CmpOp → MV → MV → Option Bool
  | .Eq, x, y => eqM μ x y
  | .NotEq, x, y => (eqM μ x y).map (!·)
  | .Lt, .int a, .int b => some (decide (a < b))
  | .LtE, .int a, .int b => some (decide (a ≤ b))
  | .Gt, .int a, .int b => some (decide (b < a))
  | .GtE, .int a, .int b => some (decide (b ≤ a))
  | .LtE, .str a, .str b => some (!decide (b.cps.toList < a.cps.toList))
  | .Lt, .str a, .str b => some (decide (a.cps.toList < b.cps.toList))
  | .Is, .non, .non => some true
  | .Is, _, .non => some false
  | .IsNot, .non, .non => some false
  | .IsNot, _, .non => some true
  | .In, x, y => inM μ x y
  | .NotIn, x, y => (inM μ x y).map (!·)
  | _, _, _ => none
def truM (μ : Mem) : MV → Option Bool
  | .non => some false
  | .bl b => some b
  | .int i => some (i != 0)
  | .str s => if s.length ≤ sizeLine then some ((s.length : Int) != 0) else none
  | .tup xs => some (!xs.isEmpty)
  | .ref i => (lstAt μ i).map fun xs => !xs.isEmpty
  | _ => none
def mulOk (i j : Int) : Bool := (decide (-(2 ^ 64) < i) && decide (i < 2 ^ 64)) || (decide (-(2 ^ 64) < j) && decide (j < 2 ^ 64)) || decide (i.natAbs.log2 + j.natAbs.log2 < 1000000)
def divOk (j : Int) : Bool := decide (j ≠ 0) && (decide (j.natAbs < 1073741824) || (decide (0 < j) && decide (j.natAbs.log2 < 9000)))
def binM (μ : Mem) : Operator → MV → MV → R MV
  | .Add, .int a, .int b => .ok (.int (a + b)) μ
  | .Add, .str a, .str b => if a.length + b.length ≤ sizeLine then .ok (.str (a ++ b)) μ else .no
  | .Add, .tup a, .tup b => newT (a ++ b) μ
  | .Add, .ref i, .ref j => (match μ[i]?, μ[j]? with
    | some (.lst a), some (.lst b) => newL (a ++ b) μ
    | _, _ => .no)
  | .Sub, .int a, .int b => .ok (.int (a - b)) μ
  | .Mult, .int a, .int b => if mulOk a b then .ok (.int (a * b)) μ else .no
  | .FloorDiv, .int a, .int b => if divOk b then .ok (.int (a.fdiv b)) μ else .no
  | .Mod, .int a, .int b => if b ≠ 0 then .ok (.int (a.fmod b)) μ else .no
  | _, _, _ => .no
def idxM (μ : Mem) : MV → MV → Option MV
  | .tup xs, .int i => (ixM xs.length i).bind fun j => xs[j]?
  | .ref a, .int i => (lstAt μ a).bind fun xs => (ixM xs.length i).bind fun j => xs[j]?
  | .str s, .int i => if s.length ≤ sizeLine then (ixM s.cps.toList.length i).bind fun j => (s.cps.toList[j]?).map fun c => .str ⟨#[c]⟩ else none
  | _, _ => none
def slcM (μ : Mem) (x : MV) (lo hi : Option Int) : R MV := match x with
  | .tup xs => newT (cutM xs lo hi) μ
  | .ref a => (match lstAt μ a with
    | some xs => newL (cutM xs lo hi) μ
    | none => .no)
  | .str s => if s.length ≤ sizeLine then .ok (.str ⟨(cutM s.cps.toList lo hi).toArray⟩) μ else .no
  | _ => .no
def E.isNon : E → Bool
  | .non => true
  | _ => false
def partR (n : Bool) (r : R MV) (μ : Mem) : R (Option Int) := if n then .ok none μ else r.bind fun v μ => match v with
  | .int i => .ok (some i) μ
  | _ => .no
/-- xs[i] = v -/
def setM (μ : Mem) : MV → MV → MV → R Unit
  | .ref a, .int i, v => (match μ[a]? with
    | some (.lst xs) => (match ixM xs.length i with
      | some j => .ok () (μ.set a (.lst (xs.set j v)))
      | none => .no)
    | _ => .no)
  | _, _, _ => .no
/-- the i-th thing that is walked -/
def nth (μ : Mem) : MV → Nat → Option (Option MV)
  | .tup xs, i => some xs[i]?
  | .ref a, i => (lstAt μ a).map (·[i]?)
  | .rng lo n st, i => some (if i < n then some (.int (lo + i * st)) else none)
  | .zp a b, i => (match nth μ a i, nth μ b i with
    | some (some x), some (some y) => some (some (.tup [x, y]))
    | some _, some _ => some none
    | _, _ => none)
  | .en a, i => (match nth μ a i with
    | some (some x) => some (some (.tup [.int i, x]))
    | some none => some none
    | none => none)
  | _, _ => none
def itM (μ : Mem) : MV → R MV
  | .tup xs => .ok (.tup xs) μ
  | .ref a => (match lstAt μ a with
    | some _ => .ok (.ref a) μ
    | none => .no)
  | .rng lo n st => .ok (.rng lo n st) μ
  | .zp a b => .ok (.zp a b) μ
  | .en a => .ok (.en a) μ
  | _ => .no
def rngM (μ : Mem) : List MV → R MV
  | [.int a] => if -(2 ^ 62) ≤ a ∧ a < 2 ^ 62 then .ok (.rng 0 a.toNat 1) μ else .no
  | [.int a, .int b] => if -(2 ^ 62) ≤ a ∧ a < 2 ^ 62 ∧ -(2 ^ 62) ≤ b ∧ b < 2 ^ 62 then .ok (.rng a (b - a).toNat 1) μ else .no
  | _ => .no
def bls : List MV → Option (List Bool)
  | [] => some []
  | .bl b :: r => (bls r).map (b :: ·)
  | _ => none
def strs' : List MV → Option (List Str)
  | [] => some []
  | .str b :: r => (strs' r).map (b :: ·)
  | _ => none
def biM (μ : Mem) : BI → List MV → R MV
  | .abs, [.int a] => .ok (.int (if a < 0 then -a else a)) μ
  | .len, [.str s] => if s.length ≤ sizeLine then .ok (.int s.length) μ else .no
  | .len, [.tup xs] => .ok (.int xs.length) μ
  | .len, [.ref a] => (match lstAt μ a with
    | some xs => .ok (.int xs.length) μ
    | none => .no)
  | .all, [.ref a] => (match (lstAt μ a).bind bls with
    | some bs => .ok (.bl (bs.all _root_.id)) μ
    | none => .no)
  | .any, [.ref a] => (match (lstAt μ a).bind bls with
    | some bs => .ok (.bl (bs.any _root_.id)) μ
    | none => .no)
  | .int, [.int a] => .ok (.int a) μ
  | .int, [.bl b] => .ok (.int (if b then 1 else 0)) μ
  | .str, [.int a] => if a.natAbs.log2 < 1920 then .ok (.str (toString a : String)) μ else .no
  | .tuple, [.ref a] => (match lstAt μ a with
    | some xs => .ok (.tup xs) μ
    | none => .no)
  | .tuple, [.tup xs] => .ok (.tup xs) μ
  | .list, [.ref a] => (match lstAt μ a with
    | some xs => newL xs μ
    | none => .no)
  | .list, [.tup xs] => newL xs μ
  | _, _ => .no
/-- the receiver is of the method's type -/
def mthTy (μ : Mem) : Mt → MV → Bool
  | .append, .ref a => (lstAt μ a).isSome
  | .join, .str _ => true
  | _, _ => false
def mthM (μ : Mem) : Mt → MV → List MV → R MV
  | .append, .ref a, [v] => (match μ[a]? with
    | some (.lst xs) => if xs.length < sizeLine then .ok .non (μ.set a (.lst (xs ++ [v]))) else .no
    | _ => .no)
  | .join, .str s, [.ref a] => (match (lstAt μ a).bind strs' with
    | some ys => if (ys.map (·.length)).sum + ys.length * s.length ≤ 16777216 then .ok (.str (Txt.join s ys)) μ else .no
    | none => .no)
  | _, _, _ => .no
def tyM (P : Prog) (μ : Mem) (x : MV) : TyR → Option Bool
  | .cls c => (match x with
    | .obj d _ => (match P.clss[d]? with
      | some Cl => if Cl.exc then none else some (decide (c ∈ Cl.up))
      | none => none)
    | .non => some false
    | .bl _ => some false
    | .int _ => some false
    | .str _ => some false
    | .tup _ => some false
    | .ref a => (lstAt μ a).map fun _ => false
    | _ => none)
  | t => (match x with
    | .non => some false
    | .bl _ => some (decide (t = .bool ∨ t = .int))
    | .int _ => some (decide (t = .int))
    | .str _ => some (decide (t = .str))
    | .tup _ => some (decide (t = .tuple))
    | .ref a => (lstAt μ a).map fun _ => decide (t = .list)
    | .obj d _ => (match P.clss[d]? with
      | some Cl => if Cl.exc then none else some false
      | none => none)
    | _ => none)
def tysM (P : Prog) (μ : Mem) (x : MV) : List TyR → Option Bool
  | [] => some false
  | t :: ts => match tyM P μ x t with
    | some true => some true
    | some false => tysM P μ x ts
    | none => none
def opName : Operator → Str
  | .Add => "__add__"
  | .Sub => "__sub__"
  | .Mult => "__mul__"
  | _ => "-"
def methOf (P : Prog) (c : Nat) (m : Str) : Option Nat := (P.clss[c]?).bind fun C => C.meths.lookup m

/-! ### running -/
/-- storing into names: a name, a tuple of names -/
def bindT : E → MV → Env → Option Env
  | .var i, v, σ => some (σ.set i (some v))
  | .tup ts, v, σ => (match v with
    | .tup xs => if xs.length = ts.length then go ts xs σ else none
    | _ => none)
  | _, _, _ => none
where
  go : List E → List MV → Env → Option Env
    | [], [], σ => some σ
    | t :: ts, x :: xs, σ => (bindT t x σ).bind fun σ' => go ts xs σ'
    | _, _, _ => none
def wipeM (σ : Env) : List Nat → Env
  | [] => σ
  | v :: vs => (wipeM σ vs).set v none
def compL (it : MV) (body : List MV → MV → Mem → R (List MV)) : Nat → Nat → List MV → Mem → R (List MV)
  | 0, _, _, _ => .no
  | n + 1, i, acc, μ => match nth μ it i with
    | some (some x) => (body acc x μ).bind fun acc' μ' => compL it body n (i + 1) acc' μ'
    | some none => .ok acc μ
    | none => .no
def putL (acc : List MV) (v : MV) (μ : Mem) : R (List MV) := if acc.length < sizeLine then .ok (acc ++ [v]) μ else .no
/-- inside a comprehension nothing is raised -/
def R.calm {α : Type} : R α → R α
  | .exc _ _ => .no
  | r => r
def truR (v : MV) (μ : Mem) : R Bool := R.opt (truM μ v) μ

mutual
def evE (T : Tab) : E → Env → Mem → R MV
  | .non, _, μ => .ok .non μ
  | .bl b, _, μ => .ok (.bl b) μ
  | .int i, _, μ => .ok (.int i) μ
  | .str x, _, μ => .ok (.str x) μ
  | .var i, σ, μ => (match σ[i]? with
    | some (some v) => .ok v μ
    | _ => .no)
  | .fn f, _, μ => .ok (.fn f) μ
  | .gc k, _, μ => R.opt T.P.consts[k]? μ
  | .neg a, σ, μ => (evE T a σ μ).bind fun x μ => (match x with
    | .int i => .ok (.int (-i)) μ
    | _ => .no)
  | .not a, σ, μ => (evE T a σ μ).bind fun x μ => (truR x μ).bind fun b μ => .ok (.bl (!b)) μ
  | .bin op a b, σ, μ => (evE T a σ μ).bind fun x μ => (evE T b σ μ).bind fun y μ => binM μ op x y
  | .cmp op a b, σ, μ => (evE T a σ μ).bind fun x μ => (evE T b σ μ).bind fun y μ => (R.opt (cmpM μ op x y) μ).bind fun k μ => .ok (.bl k) μ
  | .cmp2 o1 o2 a b c, σ, μ => (evE T a σ μ).bind fun x μ => (evE T b σ μ).bind fun y μ => (R.opt (cmpM μ o1 x y) μ).bind fun k μ =>
      if k then (evE T c σ μ).bind fun z μ => (R.opt (cmpM μ o2 y z) μ).bind fun k μ => .ok (.bl k) μ else .ok (.bl false) μ
  | .and a b, σ, μ => (evE T a σ μ).bind fun x μ => (truR x μ).bind fun k μ => if k then evE T b σ μ else .ok x μ
  | .or a b, σ, μ => (evE T a σ μ).bind fun x μ => (truR x μ).bind fun k μ => if k then .ok x μ else evE T b σ μ
  | .ite c a b, σ, μ => (evE T c σ μ).bind fun x μ => (truR x μ).bind fun k μ => if k then evE T a σ μ else evE T b σ μ
  | .tup as, σ, μ => (evEs T as σ μ).bind fun xs μ => newT xs μ
  | .lst as, σ, μ => (evEs T as σ μ).bind fun xs μ => newL xs μ
  | .fld a f, σ, μ => (evE T a σ μ).bind fun x μ => (match x with
    | .obj c vs => R.opt ((T.P.clss[c]?).bind fun C => if C.init.isSome then (C.fields.idxOf? f).bind fun j => vs[j]? else none) μ
    | _ => .no)
  | .xfld i f, σ, μ => (match (σ[i]? : Option (Option MV)) with
    | some (some (MV.exn c vs)) => R.opt ((T.P.clss[c]?).bind fun C => if C.exc = false then none else (C.fields.idxOf? f).bind fun j => vs[j]?) μ
    | _ => .no)
  | .idx a b, σ, μ => (evE T a σ μ).bind fun x μ => (evE T b σ μ).bind fun y μ => R.opt (idxM μ x y) μ
  | .slc a lo hi, σ, μ => (evE T a σ μ).bind fun x μ => (partR lo.isNon (evE T lo σ μ) μ).bind fun l μ => (partR hi.isNon (evE T hi σ μ) μ).bind fun h μ => slcM μ x l h
  | .call f as, σ, μ => (evEs T as σ μ).bind fun xs μ => T.call f xs μ
  | .callv i as, σ, μ => (match σ[i]? with
    | some (some (.fn f)) => (evEs T as σ μ).bind fun xs μ => T.call f xs μ
    | _ => .no)
  | .mk c as, σ, μ => (evEs T as σ μ).bind fun xs μ => T.make c xs μ
  | .bi b as, σ, μ => (evEs T as σ μ).bind fun xs μ => biM μ b xs
  | .mth m o as, σ, μ => (evE T o σ μ).bind fun x μ => if mthTy μ m x then (evEs T as σ μ).bind fun xs μ => mthM μ m x xs else .no
  | .omth m o as, σ, μ => (evE T o σ μ).bind fun x μ => (evEs T as σ μ).bind fun xs μ => (match x with
    | .obj c vs => (match methOf T.P c m with
      | some f => T.call f (.obj c vs :: xs) μ
      | none => .no)
    | _ => .no)
  | .isin a ts, σ, μ => (evE T a σ μ).bind fun x μ => (R.opt (tysM T.P μ x ts) μ).bind fun k μ => .ok (.bl k) μ
  | .comp elt tg it cond own, σ, μ => (evE T it σ μ).bind fun J μ => (itM μ J).bind fun J μ =>
      (compL J (fun acc x μ => (R.opt (bindT tg x (wipeM σ own)) μ).bind fun σ1 μ => R.calm ((evE T cond σ1 μ).bind fun k μ => (truR k μ).bind fun k μ =>
        if k then (evE T elt σ1 μ).bind fun v μ => putL acc v μ else .ok acc μ)) T.n 0 [] μ).bind fun xs μ => newL xs μ
  | .comp2 elt tg it cond tg1 it1 cond1 own own1, σ, μ => (evE T it σ μ).bind fun J μ => (itM μ J).bind fun J μ =>
      (compL J (fun acc x μ => (R.opt (bindT tg x (wipeM σ own)) μ).bind fun σ1 μ => R.calm ((evE T cond σ1 μ).bind fun k μ => (truR k μ).bind fun k μ =>
        if k then (evE T it1 σ1 μ).bind fun J1 μ => (itM μ J1).bind fun J1 μ =>
          compL J1 (fun acc x μ => (R.opt (bindT tg1 x (wipeM σ1 own1)) μ).bind fun σ2 μ => (evE T cond1 σ2 μ).bind fun k μ => (truR k μ).bind fun k μ =>
            if k then (evE T elt σ2 μ).bind fun v μ => putL acc v μ else .ok acc μ) T.n 0 acc μ
        else .ok acc μ)) T.n 0 [] μ).bind fun xs μ => newL xs μ
  | .rng as, σ, μ => (evEs T as σ μ).bind fun xs μ => rngM μ xs
  | .zip a b, σ, μ => (evE T a σ μ).bind fun x μ => (evE T b σ μ).bind fun y μ => (itM μ x).bind fun x μ => (itM μ y).bind fun y μ => .ok (.zp x y) μ
  | .enum a, σ, μ => (evE T a σ μ).bind fun x μ => (itM μ x).bind fun x μ => .ok (.en x) μ
def evEs (T : Tab) : List E → Env → Mem → R (List MV)
  | [], _, μ => .ok [] μ
  | e :: es, σ, μ => (evE T e σ μ).bind fun x μ => (evEs T es σ μ).bind fun xs μ => .ok (x :: xs) μ
end

/-- how a statement ends -/
inductive Fl where
  | next (σ : Env) | ret (v : MV) | brk (σ : Env) | cnt (σ : Env)
inductive RS where
  | ok (f : Fl) (μ : Mem) | exc (x : MX) (σ : Env) (μ : Mem) | no
def R.stm {α : Type} (σ : Env) : R α → (α → Mem → RS) → RS
  | .ok a μ, k => k a μ
  | .exc x μ, _ => .exc x σ μ
  | .no, _ => .no
/-- behind a statement that goes on -/
def RS.go : RS → (Env → Mem → RS) → RS
  | .ok (.next σ) μ, k => k σ μ
  | r, _ => r
/-- behind a loop's turn -/
def RS.turn : RS → (Env → Mem → RS) → RS
  | .ok (.next σ) μ, k => k σ μ
  | .ok (.cnt σ) μ, k => k σ μ
  | .ok (.brk σ) μ, _ => .ok (.next σ) μ
  | r, _ => r
def asgT (T : Tab) : E → MV → Env → Mem → R Env
  | .var i, v, σ, μ => .ok (σ.set i (some v)) μ
  | .tup ts, v, σ, μ => (match v with
    | .tup xs => if xs.length = ts.length then go T ts xs σ μ else .no
    | .ref a => (match lstAt μ a with
      | some xs => if xs.length = ts.length then go T ts xs σ μ else .no
      | none => .no)
    | _ => .no)
  | .idx a b, v, σ, μ => (evE T a σ μ).bind fun x μ => (evE T b σ μ).bind fun y μ => (setM μ x y v).bind fun _ μ => .ok σ μ
  | _, _, _, _ => .no
where
  go (T : Tab) : List E → List MV → Env → Mem → R Env
    | [], [], σ, μ => .ok σ μ
    | t :: ts, x :: xs, σ, μ => (asgT T t x σ μ).bind fun σ μ => go T ts xs σ μ
    | _, _, _, _ => .no
def whileL (c : Env → Mem → R Bool) (b : Env → Mem → RS) : Nat → Env → Mem → RS
  | 0, _, _ => .no
  | n + 1, σ, μ => (c σ μ).stm σ fun k μ => if k then (b σ μ).turn fun σ μ => whileL c b n σ μ else .ok (.next σ) μ
def forL (it : MV) (g : MV → Env → Option Env) (b : Env → Mem → RS) : Nat → Nat → Env → Mem → RS
  | 0, _, _, _ => .no
  | n + 1, i, σ, μ => match nth μ it i with
    | some (some x) => (match g x σ with
      | some σ => (b σ μ).turn fun σ μ => forL it g b n (i + 1) σ μ
      | none => .no)
    | some none => .ok (.next σ) μ
    | none => .no
/-- is an exception of that class one of this -/
def isX (P : Prog) (x : MX) (c : Nat) : Option Bool := match P.clss[x.c]? with
  | some C => if C.exc then some (decide (c ∈ C.up)) else none
  | none => none
/-- an except suite, with the name that it binds -/
def suite (n : Option Nat) (h : Env → Mem → RS) (x : MX) (σ : Env) (μ : Mem) : RS := match n with
  | none => h σ μ
  | some i => if σ.length ≤ i then .no else match h (σ.set i (some (.exn x.c x.vs))) μ with
    | .ok (.next σ) μ => .ok (.next (σ.set i none)) μ
    | .ok (.brk σ) μ => .ok (.brk (σ.set i none)) μ
    | .ok (.cnt σ) μ => .ok (.cnt (σ.set i none)) μ
    | .ok (.ret v) μ => .ok (.ret v) μ
    | _ => .no
def RS.calm : RS → RS
  | .exc _ _ _ => .no
  | r => r
/-- an exception of the class c, made of the values -/
def mkX (P : Prog) (c : Nat) (xs : List MV) : Option MX := match P.clss[c]? with
  | some C => (match C.fields, xs with
    | [], [.str _] => some ⟨c, []⟩
    | [_], [v] => some ⟨c, [v]⟩
    | _, _ => none)
  | none => none
mutual
def evS (T : Tab) : S → Env → Mem → RS
  | .asg t e, σ, μ => (evE T e σ μ).stm σ fun v μ => (R.calm (asgT T t v σ μ)).stm σ fun σ μ => .ok (.next σ) μ
  | .setf f e, σ, μ => (evE T e σ μ).stm σ fun v μ => (match (σ[0]? : Option (Option MV)) with
    | some (some (MV.obj c vs)) => (match T.P.clss[c]? with
      | some C => if C.fields[vs.length]? = some f then .ok (.next (σ.set 0 (some (.obj c (vs ++ [v]))))) μ else .no
      | none => .no)
    | _ => .no)
  | .expr e, σ, μ => (evE T e σ μ).stm σ fun _ μ => .ok (.next σ) μ
  | .ite c a b, σ, μ => (evE T c σ μ).stm σ fun x μ => (truR x μ).stm σ fun k μ => if k then evB T a σ μ else evB T b σ μ
  | .while c b, σ, μ => whileL (fun σ μ => (evE T c σ μ).bind truR) (evB T b) T.n σ μ
  | .for t it b, σ, μ => (evE T it σ μ).stm σ fun J μ => (itM μ J).stm σ fun J μ => forL J (bindT t) (evB T b) T.n 0 σ μ
  | .ret e, σ, μ => (evE T e σ μ).stm σ fun v μ => .ok (.ret v) μ
  | .retN, _, μ => .ok (.ret .non) μ
  | .raise c as, σ, μ => (evEs T as σ μ).stm σ fun xs μ => (match mkX T.P c xs with
    | some x => .exc x σ μ
    | none => .no)
  | .brk, σ, μ => .ok (.brk σ) μ
  | .cnt, σ, μ => .ok (.cnt σ) μ
  | .pass, σ, μ => .ok (.next σ) μ
  | .try1 b c n h, σ, μ => (match evB T b σ μ with
    | .exc x σ μ => (match isX T.P x c with
      | some true => (suite n (evB T h) x σ μ).calm
      | some false => .exc x σ μ
      | none => .no)
    | r => r)
  | .try2 b c n h c' n' h', σ, μ => (match evB T b σ μ with
    | .exc x σ μ => (match isX T.P x c with
      | some true => (suite n (evB T h) x σ μ).calm
      | some false => (match isX T.P x c' with
        | some true => (suite n' (evB T h') x σ μ).calm
        | some false => .exc x σ μ
        | none => .no)
      | none => .no)
    | r => r)
def evB (T : Tab) : List S → Env → Mem → RS
  | [], σ, μ => .ok (.next σ) μ
  | s :: b, σ, μ => (evS T s σ μ).go fun σ μ => evB T b σ μ
end

/-! ### calls -/
def fullArgs (D : Def) (args : List MV) : List MV := args ++ D.dfl.drop (D.dfl.length - (D.np - args.length))
def slots (D : Def) (vs : List MV) : Env := vs.map some ++ List.replicate (D.ns - vs.length) none
def runD (T : Tab) (D : Def) (args : List MV) (μ : Mem) : R MV :=
  if (fullArgs D args).length = D.np then match evB T D.body (slots D (fullArgs D args)) μ with
    | .ok (.ret v) μ => .ok v μ
    | .ok (.next _) μ => .ok .non μ
    | .exc x _ μ => .exc x μ
    | _ => .no
  else .no
def runI (T : Tab) (c : Nat) (k : Nat) (D : Def) (args : List MV) (μ : Mem) : R MV :=
  if (fullArgs D (.obj c [] :: args)).length = D.np then match evB T D.body (slots D (fullArgs D (.obj c [] :: args))) μ with
    | .ok (.next σ) μ => (match (σ[0]? : Option (Option MV)) with
      | some (some (MV.obj c' vs)) => if c' = c ∧ vs.length = k then .ok (.obj c vs) μ else .no
      | _ => .no)
    | .exc x _ μ => .exc x μ
    | _ => .no
  else .no
/-- the calls, d deep, with n for the loops -/
def tabD (P : Prog) (n : Nat) : Nat → Tab
  | 0 => ⟨P, n, fun _ _ _ => .no, fun _ _ _ => .no⟩
  | d + 1 => ⟨P, n, fun f args μ => (match P.defs[f]? with
      | some D => runD (tabD P n d) D args μ
      | none => .no), fun c args μ => (match P.clss[c]? with
      | some C => (match C.init.bind fun i => P.defs[i]? with
        | some D => runI (tabD P n d) c C.fields.length D args μ
        | none => .no)
      | none => .no)⟩
end Mch

/-! ## How the machine's values stand in the abstract heap -/
namespace Mch
open PySem L2

structure Glob where
  K : PySem.W.Frag
  fA : Nat → Option Addr
  cA : Nat → Option Addr
  P : Prog

mutual
def RV (g : Glob) (φ : List Addr) (G : Hp) : MV → V → Prop
  | .non, v => v = .non
  | .bl b, v => v = .bl b
  | .int i, v => v = .int i
  | .str s, v => v = .str s
  | .tup xs, v => ∃ a vs, v = .ref a ∧ SqT g.K G a vs ∧ RVs g φ G xs vs
  | .ref i, v => ∃ a, v = .ref a ∧ φ[i]? = some a
  | .obj c xs, v => ∃ a C dx fs Cl, v = .ref a ∧ g.cA c = some C ∧ G a = some (.ins C dx fs) ∧ g.P.clss[c]? = some Cl ∧ fs.map (·.1) = Cl.fields ∧ RVs g φ G xs (fs.map (·.2))
  | .fn f, v => ∃ a, v = .ref a ∧ g.fA f = some a
  | _, _ => False
def RVs (g : Glob) (φ : List Addr) (G : Hp) : List MV → List V → Prop
  | [], vs => vs = []
  | x :: xs, vs => ∃ v r, vs = v :: r ∧ RV g φ G x v ∧ RVs g φ G xs r
end

/-- what never changes -/
def Fix : HO → Prop
  | .tup _ => True
  | .ins _ _ _ => True
  | .frz _ _ => True
  | .xd _ => True
  | _ => False
def Sub (G H : Hp) : Prop := ∀ a o, G a = some o → H a = some o
structure Ext (ex : Option Addr) (φ : List Addr) (G H : Hp) (φ' : List Addr) (G' H' : Hp) : Prop where
  pre : φ <+: φ'
  keep : ∀ a o, G a = some o → Fix o → G' a = some o
  sub : Sub G' H'
  frame : ∀ a o, H a = some o → G a = none → G' a = none ∧ ∃ o', H' a = some o' ∧ (some a ≠ ex → o' = o)
section
variable {ex : Option Addr} {φ φ1 φ2 : List Addr} {G G1 G2 H H1 H2 : Hp} {g : Glob}
theorem Ext.refl (s : Sub G H) : Ext ex φ G H φ G H := ⟨List.prefix_refl _, fun _ _ h _ => h, s, fun _ o h n => ⟨n, o, h, fun _ => rfl⟩⟩
theorem Ext.trans (a : Ext ex φ G H φ1 G1 H1) (b : Ext ex φ1 G1 H1 φ2 G2 H2) : Ext ex φ G H φ2 G2 H2 where
  pre := a.pre.trans b.pre
  keep := fun c o h i => b.keep c o (a.keep c o h i) i
  sub := b.sub
  frame := fun c o h n => by
    obtain ⟨n1, o1, h1, e1⟩ := a.frame c o h n
    obtain ⟨n2, o2, h2, e2⟩ := b.frame c o1 h1 n1
    exact ⟨n2, o2, h2, fun ne => (e2 ne).trans (e1 ne)⟩
theorem Ext.weak (a : Ext none φ G H φ1 G1 H1) : Ext ex φ G H φ1 G1 H1 where
  pre := a.pre
  keep := a.keep
  sub := a.sub
  frame := fun c o h n => by
    obtain ⟨n1, o1, h1, e1⟩ := a.frame c o h n
    exact ⟨n1, o1, h1, fun _ => e1 (by simp)⟩
theorem Ext.same (a : Ext none φ G H φ1 G1 H1) {c : Addr} {o : HO} (h : H c = some o) (n : G c = none) : H1 c = some o ∧ G1 c = none := by
  obtain ⟨n1, o1, h1, e1⟩ := a.frame c o h n
  have e := e1 (by simp)
  subst e
  exact ⟨h1, n1⟩
theorem Sub.none (s : Sub G H) {a : Addr} (h : H a = none) : G a = none := by
  cases e : G a with
  | none => rfl
  | some o =>
    have := s a o e
    rw [h] at this
    cases this
theorem Sub.upd (s : Sub G H) (a : Addr) (o : HO) : Sub (upd G a o) (upd H a o) := fun b u e => by
  by_cases q : b = a
  · subst q
    rw [upd_same] at e ⊢
    exact e
  · rw [upd_ne q] at e ⊢
    exact s b u e
/-- a new object -/
theorem Ext.new (s : Sub G H) {p : Addr} {o : HO} (h : H p = Option.none) (x : List Addr) : Ext ex φ G H (φ ++ x) (upd G p o) (upd H p o) where
  pre := List.prefix_append _ _
  keep := fun a u e _ => by
    rw [upd_ne (ne_of_none e (s.none h))]
    exact e
  sub := s.upd p o
  frame := fun a u e n => by
    have ne : a ≠ p := ne_of_none e h
    rw [upd_ne ne, upd_ne ne]
    exact ⟨n, u, e, fun _ => rfl⟩
/-- an object that may change is changed -/
theorem Ext.set (s : Sub G H) {p : Addr} {o u : HO} (h : G p = some o) (hf : ¬ Fix o) : Ext ex φ G H φ (L2.upd G p u) (L2.upd H p u) where
  pre := List.prefix_refl _
  keep := fun a w e i => by
    have ne : a ≠ p := fun z => by
      subst z
      rw [h] at e
      cases e
      exact hf i
    rw [upd_ne ne]
    exact e
  sub := s.upd p u
  frame := fun a w e n => by
    have ne : a ≠ p := fun z => by
      subst z
      rw [h] at n
      cases n
    rw [upd_ne ne, upd_ne ne]
    exact ⟨n, w, e, fun _ => rfl⟩
/-! ### values stay -/
theorem pre_get {i : Nat} {a : Addr} (p : φ <+: φ1) (h : φ[i]? = some a) : φ1[i]? = some a := by
  obtain ⟨t, rfl⟩ := p
  rw [List.getElem?_append_left (List.getElem?_eq_some_iff.mp h).1]
  exact h
theorem sqT_keep {K : PySem.W.Frag} {a : Addr} {vs : List V} (k : ∀ a o, G a = some o → Fix o → G1 a = some o) (h : SqT K G a vs) : SqT K G1 a vs := by
  rcases h with (h | ⟨o, h⟩) | h
  · exact .inl (.inl (k a _ h trivial))
  · exact .inl (.inr ⟨o, k a _ h trivial⟩)
  · exact .inr h
mutual
theorem RV.mono (p : φ <+: φ1) (k : ∀ a o, G a = some o → Fix o → G1 a = some o) : ∀ (x : MV) (v : V), RV g φ G x v → RV g φ1 G1 x v
  | .non, v, h => by simpa only [RV] using h
  | .bl b, v, h => by simpa only [RV] using h
  | .int i, v, h => by simpa only [RV] using h
  | .str s, v, h => by simpa only [RV] using h
  | .tup xs, v, h => by
    simp only [RV] at h ⊢
    obtain ⟨a, vs, e, hq, r⟩ := h
    exact ⟨a, vs, e, sqT_keep k hq, RVs.mono p k xs vs r⟩
  | .ref i, v, h => by
    simp only [RV] at h ⊢
    obtain ⟨a, e, q⟩ := h
    exact ⟨a, e, pre_get p q⟩
  | .obj c xs, v, h => by
    simp only [RV] at h ⊢
    obtain ⟨a, C, dx, fs, Cl, e, hc, hg, hl, hn, r⟩ := h
    exact ⟨a, C, dx, fs, Cl, e, hc, k a _ hg trivial, hl, hn, RVs.mono p k xs _ r⟩
  | .fn f, v, h => by simpa only [RV] using h
  | .rng _ _ _, v, h => by simp only [RV] at h
  | .zp _ _, v, h => by simp only [RV] at h
  | .en _, v, h => by simp only [RV] at h
  | .exn _ _, v, h => by simp only [RV] at h
theorem RVs.mono (p : φ <+: φ1) (k : ∀ a o, G a = some o → Fix o → G1 a = some o) : ∀ (xs : List MV) (vs : List V), RVs g φ G xs vs → RVs g φ1 G1 xs vs
  | [], vs, h => by simpa only [RVs] using h
  | x :: xs, vs, h => by
    simp only [RVs] at h ⊢
    obtain ⟨v, r, e, h1, h2⟩ := h
    exact ⟨v, r, e, RV.mono p k x v h1, RVs.mono p k xs r h2⟩
end
theorem RV.ext {x : MV} {v : V} (h : RV g φ G x v) (e : Ext ex φ G H φ1 G1 H1) : RV g φ1 G1 x v := RV.mono e.pre e.keep x v h
theorem RVs.ext {x : List MV} {v : List V} (h : RVs g φ G x v) (e : Ext ex φ G H φ1 G1 H1) : RVs g φ1 G1 x v := RVs.mono e.pre e.keep x v h
/-! ### rows of values -/
theorem rvs_nil : RVs g φ G [] [] := by simp only [RVs]
theorem rvs_cons {x : MV} {xs : List MV} {v : V} {vs : List V} (h : RV g φ G x v) (r : RVs g φ G xs vs) : RVs g φ G (x :: xs) (v :: vs) := by
  simp only [RVs]
  exact ⟨v, vs, rfl, h, r⟩
theorem rvs_iff : ∀ {xs : List MV} {vs : List V}, RVs g φ G xs vs ↔ xs.length = vs.length ∧ ∀ (i : Nat) x v, xs[i]? = some x → vs[i]? = some v → RV g φ G x v
  | [], vs => by
    simp only [RVs]
    constructor
    · rintro rfl
      exact ⟨rfl, fun i x v h => by simp at h⟩
    · rintro ⟨h, _⟩
      cases vs with
      | nil => rfl
      | cons _ _ => simp at h
  | x :: xs, vs => by
    simp only [RVs]
    constructor
    · rintro ⟨v, r, rfl, h1, h2⟩
      obtain ⟨l, f⟩ := rvs_iff.mp h2
      refine ⟨by simp [l], fun i y w e1 e2 => ?_⟩
      cases i with
      | zero =>
        simp at e1 e2
        subst e1 e2
        exact h1
      | succ i => exact f i y w (by simpa using e1) (by simpa using e2)
    · rintro ⟨l, f⟩
      cases vs with
      | nil => simp at l
      | cons v r => exact ⟨v, r, rfl, f 0 x v rfl rfl, rvs_iff.mpr ⟨by simpa using l, fun i y w e1 e2 => f (i + 1) y w (by simpa using e1) (by simpa using e2)⟩⟩
theorem RVs.len {xs : List MV} {vs : List V} (h : RVs g φ G xs vs) : xs.length = vs.length := (rvs_iff.mp h).1
theorem RVs.get {xs : List MV} {vs : List V} (h : RVs g φ G xs vs) {i : Nat} {x : MV} (e : xs[i]? = some x) : ∃ v, vs[i]? = some v ∧ RV g φ G x v := by
  obtain ⟨l, f⟩ := rvs_iff.mp h
  have hi := (List.getElem?_eq_some_iff.mp e).1
  have hv : vs[i]? = some (vs[i]'(by omega)) := List.getElem?_eq_getElem _
  exact ⟨_, hv, f i x _ e hv⟩
theorem RVs.none {xs : List MV} {vs : List V} (h : RVs g φ G xs vs) {i : Nat} (e : xs[i]? = Option.none) : vs.length ≤ i := by
  have := h.len
  have := List.getElem?_eq_none_iff.mp e
  omega
theorem RVs.back {xs : List MV} {vs : List V} (h : RVs g φ G xs vs) {i : Nat} {v : V} (e : vs[i]? = some v) : ∃ x, xs[i]? = some x ∧ RV g φ G x v := by
  obtain ⟨l, f⟩ := rvs_iff.mp h
  have hi := (List.getElem?_eq_some_iff.mp e).1
  have hx : xs[i]? = some (xs[i]'(by omega)) := List.getElem?_eq_getElem _
  exact ⟨_, hx, f i _ v hx e⟩
theorem RVs.append : ∀ {xs ys : List MV} {vs ws : List V}, RVs g φ G xs vs → RVs g φ G ys ws → RVs g φ G (xs ++ ys) (vs ++ ws)
  | [], _, _, _, h, k => by
    simp only [RVs] at h
    subst h
    exact k
  | x :: xs, _, _, _, h, k => by
    simp only [RVs] at h
    obtain ⟨v, r, rfl, h1, h2⟩ := h
    exact rvs_cons h1 (RVs.append h2 k)
theorem RVs.take {xs : List MV} {vs : List V} (h : RVs g φ G xs vs) (n : Nat) : RVs g φ G (xs.take n) (vs.take n) := by
  obtain ⟨l, f⟩ := rvs_iff.mp h
  refine rvs_iff.mpr ⟨by simp [l], fun i x v e1 e2 => ?_⟩
  rw [List.getElem?_take] at e1 e2
  split at e1
  · rename_i hi
    rw [if_pos hi] at e2
    exact f i x v e1 e2
  · cases e1
theorem RVs.drop {xs : List MV} {vs : List V} (h : RVs g φ G xs vs) (n : Nat) : RVs g φ G (xs.drop n) (vs.drop n) := by
  obtain ⟨l, f⟩ := rvs_iff.mp h
  refine rvs_iff.mpr ⟨by simp [l], fun i x v e1 e2 => ?_⟩
  rw [List.getElem?_drop] at e1 e2
  exact f _ x v e1 e2
theorem RVs.set {xs : List MV} {vs : List V} (h : RVs g φ G xs vs) (n : Nat) {x : MV} {v : V} (r : RV g φ G x v) : RVs g φ G (xs.set n x) (vs.set n v) := by
  obtain ⟨l, f⟩ := rvs_iff.mp h
  refine rvs_iff.mpr ⟨by simp [l], fun i y w e1 e2 => ?_⟩
  rw [List.getElem?_set] at e1 e2
  split at e1
  · rename_i q
    rw [if_pos q] at e2
    split at e1
    · rename_i q1
      rw [if_pos (by omega)] at e2
      cases e1
      cases e2
      exact r
    · cases e1
  · rename_i q
    rw [if_neg q] at e2
    exact f i y w e1 e2
theorem RVs.one {x : MV} {vs : List V} (h : RVs g φ G [x] vs) : ∃ v, vs = [v] ∧ RV g φ G x v := by
  simp only [RVs] at h
  obtain ⟨v, r, rfl, h1, rfl⟩ := h
  exact ⟨v, rfl, h1⟩
theorem RVs.two {x y : MV} {vs : List V} (h : RVs g φ G [x, y] vs) : ∃ v w, vs = [v, w] ∧ RV g φ G x v ∧ RV g φ G y w := by
  simp only [RVs] at h
  obtain ⟨v, r, rfl, h1, w, r, rfl, h2, rfl⟩ := h
  exact ⟨v, w, rfl, h1, h2⟩
/-! ### the memory -/
/-- a list that nobody changes -/
def SqF (K : PySem.W.Frag) (G : Hp) (a : Addr) (vs : List V) : Prop := (∃ o, G a = some (.frz o (.lst vs))) ∨ ∀ G1 : Hp, SqL K G1 a vs
theorem SqF.sq {K : PySem.W.Frag} {G : Hp} {a : Addr} {vs : List V} (h : SqF K G a vs) : SqL K G a vs := by
  rcases h with ⟨o, h⟩ | h
  · exact .inl (.inr ⟨o, h⟩)
  · exact h G
theorem SqF.keep {K : PySem.W.Frag} {G G1 : Hp} {a : Addr} {vs : List V} (k : ∀ a o, G a = some o → Fix o → G1 a = some o) (h : SqF K G a vs) : SqF K G1 a vs := by
  rcases h with ⟨o, h⟩ | h
  · exact .inl ⟨o, k a _ h trivial⟩
  · exact .inr h
/-- what may be written -/
def Cell.mut : Cell → Bool
  | .frz _ => false
  | _ => true
def CellR (g : Glob) (φ : List Addr) (G : Hp) (a : Addr) : Cell → Prop
  | .lst xs => ∃ vs, G a = some (.lst vs) ∧ RVs g φ G xs vs
  | .frz xs => ∃ vs, SqF g.K G a vs ∧ RVs g φ G xs vs
  | .dct _ => False
structure Rel (g : Glob) (φ : List Addr) (G : Hp) (μ : Mem) : Prop where
  len : φ.length = μ.length
  inj : ∀ (i j : Nat) a c d, φ[i]? = some a → φ[j]? = some a → μ[i]? = some c → μ[j]? = some d → c.mut = true → d.mut = true → i = j
  cell : ∀ (i : Nat) a c, φ[i]? = some a → μ[i]? = some c → CellR g φ G a c
theorem Rel.lstAt {μ : Mem} (r : Rel g φ G μ) {i : Nat} {xs : List MV} {a : Addr} (h : lstAt μ i = some xs) (e : φ[i]? = some a) : ∃ vs, SqL g.K G a vs ∧ RVs g φ G xs vs := by
  unfold Mch.lstAt at h
  split at h
  · rename_i ys q
    cases h
    obtain ⟨vs, h1, h2⟩ := r.cell i a _ e q
    exact ⟨vs, .inl (.inl h1), h2⟩
  · rename_i ys q
    cases h
    obtain ⟨vs, h1, h2⟩ := r.cell i a _ e q
    exact ⟨vs, h1.sq, h2⟩
  · cases h
theorem Rel.ref {μ : Mem} (r : Rel g φ G μ) {i : Nat} {xs : List MV} {v : V} (h : Mch.lstAt μ i = some xs) (e : RV g φ G (.ref i) v) : ∃ a vs, v = .ref a ∧ φ[i]? = some a ∧ SqL g.K G a vs ∧ RVs g φ G xs vs := by
  simp only [RV] at e
  obtain ⟨a, rfl, q⟩ := e
  obtain ⟨vs, h1, h2⟩ := r.lstAt h q
  exact ⟨a, vs, rfl, q, h1, h2⟩
theorem CellR.keep {a : Addr} {c : Cell} (p : φ <+: φ1) (k : ∀ a o, G a = some o → Fix o → G1 a = some o) (kl : ∀ vs, G a = some (.lst vs) → G1 a = some (.lst vs)) (h : CellR g φ G a c) : CellR g φ1 G1 a c := by
  cases c with
  | lst xs =>
    obtain ⟨vs, h1, h2⟩ := h
    exact ⟨vs, kl _ h1, RVs.mono p k xs vs h2⟩
  | frz xs =>
    obtain ⟨vs, h1, h2⟩ := h
    exact ⟨vs, h1.keep k, RVs.mono p k xs vs h2⟩
  | dct kvs => exact h
/-- the heap grows -/
theorem Rel.grow {μ : Mem} (r : Rel g φ G μ) (k : Sub G G1) : Rel g φ G1 μ :=
  ⟨r.len, r.inj, fun i a c e1 e2 => (r.cell i a c e1 e2).keep (List.prefix_refl _) (fun b o h _ => k b o h) fun vs h => k a _ h⟩
theorem sub_new {p : Addr} {o : HO} (h : G p = none) : Sub G (L2.upd G p o) := fun b u e => by
  rw [upd_ne (ne_of_none e h)]
  exact e
theorem Rel.alive {μ : Mem} (r : Rel g φ G μ) {i : Nat} {a : Addr} (e : φ[i]? = some a) : ∃ c, μ[i]? = some c ∧ CellR g φ G a c := by
  have hi := (List.getElem?_eq_some_iff.mp e).1
  have hv : μ[i]? = some (μ[i]'(by rw [← r.len]; exact hi)) := List.getElem?_eq_getElem _
  exact ⟨_, hv, r.cell i a _ e hv⟩
/-- what may be written is tracked -/
theorem Rel.there {μ : Mem} (r : Rel g φ G μ) {i : Nat} {a : Addr} {c : Cell} (e : φ[i]? = some a) (h : μ[i]? = some c) (m : c.mut = true) : ∃ o, G a = some o ∧ ¬ Fix o := by
  have q := r.cell i a c e h
  cases c with
  | lst xs =>
    obtain ⟨vs, h1, _⟩ := q
    exact ⟨_, h1, fun z => z⟩
  | frz xs => cases m
  | dct kvs => exact q.elim
theorem get_app {α : Type} {l : List α} {x y : α} {i : Nat} (h : (l ++ [x])[i]? = some y) : l[i]? = some y ∨ (i = l.length ∧ y = x) := by
  by_cases hi : i < l.length
  · rw [List.getElem?_append_left hi] at h
    exact .inl h
  · rw [List.getElem?_append_right (by omega)] at h
    obtain ⟨e0, rfl⟩ := List.getElem?_eq_some_iff.mp h
    have e00 : i - l.length = 0 := by simp at e0; omega
    exact .inr ⟨by omega, by simp only [e00, List.getElem_cons_zero]⟩
/-- a new list -/
theorem Rel.newL {μ : Mem} (r : Rel g φ G μ) {p : Addr} (h : G p = none) {xs : List MV} {vs : List V} (rv : RVs g φ G xs vs) : Rel g (φ ++ [p]) (L2.upd G p (.lst vs)) (μ ++ [.lst xs]) := by
  have pre : φ <+: φ ++ [p] := List.prefix_append _ _
  have k : ∀ a o, G a = some o → Fix o → L2.upd G p (.lst vs) a = some o := fun a o e _ => sub_new h a o e
  have old : ∀ {i : Nat} {a : Addr} {c : Cell}, (φ ++ [p])[i]? = some a → (μ ++ [Cell.lst xs])[i]? = some c → (φ[i]? = some a ∧ μ[i]? = some c) ∨ (i = φ.length ∧ a = p ∧ c = Cell.lst xs) := fun {i a c} e1 e2 => by
    rcases get_app e1 with e1 | ⟨q1, rfl⟩
    · rcases get_app e2 with e2 | ⟨q2, rfl⟩
      · exact .inl ⟨e1, e2⟩
      · have := (List.getElem?_eq_some_iff.mp e1).1
        have := r.len
        omega
    · rcases get_app e2 with e2 | ⟨q2, rfl⟩
      · have := (List.getElem?_eq_some_iff.mp e2).1
        have := r.len
        omega
      · exact .inr ⟨q1, rfl, rfl⟩
  refine ⟨by simp [r.len], fun i j a c d e1 e2 e3 e4 m1 m2 => ?_, fun i a c e1 e2 => ?_⟩
  · rcases old e1 e3 with ⟨p1, p2⟩ | ⟨p1, p2, p3⟩ <;> rcases old e2 e4 with ⟨q1, q2⟩ | ⟨q1, q2, q3⟩
    · exact r.inj i j a c d p1 q1 p2 q2 m1 m2
    · obtain ⟨o, ho, _⟩ := r.there p1 p2 m1
      rw [q2, h] at ho
      cases ho
    · obtain ⟨o, ho, _⟩ := r.there q1 q2 m2
      rw [p2, h] at ho
      cases ho
    · omega
  · rcases old e1 e2 with ⟨p1, p2⟩ | ⟨p1, p2, p3⟩
    · exact (r.cell i a c p1 p2).keep pre k fun ws e => sub_new h a _ e
    · rw [p2, p3]
      exact ⟨vs, upd_same, RVs.mono pre k xs vs rv⟩
theorem get_set {α : Type} {l : List α} {x y : α} {i j : Nat} (h : (l.set i x)[j]? = some y) : (j = i ∧ y = x ∧ i < l.length) ∨ (j ≠ i ∧ l[j]? = some y) := by
  rw [List.getElem?_set] at h
  split at h
  · rename_i q
    split at h
    · cases h
      exact .inl ⟨q.symm, rfl, by assumption⟩
    · cases h
  · rename_i q
    exact .inr ⟨fun z => q z.symm, h⟩
/-- a list is written anew -/
theorem Rel.setL {μ : Mem} (r : Rel g φ G μ) {i : Nat} {p : Addr} (e : φ[i]? = some p) {ys : List MV} (hm : μ[i]? = some (.lst ys)) {xs : List MV} {vs : List V} (rv : RVs g φ G xs vs) : Rel g φ (L2.upd G p (.lst vs)) (μ.set i (.lst xs)) := by
  obtain ⟨us, h, _⟩ := r.cell i p _ e hm
  have k : ∀ a o, G a = some o → Fix o → L2.upd G p (.lst vs) a = some o := fun a o q hf => by
    rw [upd_ne (fun z => by
      subst z
      rw [h] at q
      cases q
      exact hf)]
    exact q
  have back : ∀ {j : Nat} {c : Cell}, (μ.set i (.lst xs))[j]? = some c → ∃ c', μ[j]? = some c' ∧ c'.mut = c.mut := fun {j c} q => by
    rcases get_set q with ⟨rfl, rfl, _⟩ | ⟨_, q⟩
    · exact ⟨_, hm, rfl⟩
    · exact ⟨_, q, rfl⟩
  refine ⟨by simp [r.len], fun j l a c d e1 e2 e3 e4 m1 m2 => ?_, fun j a c e1 e2 => ?_⟩
  · obtain ⟨c', e3, n1⟩ := back e3
    obtain ⟨d', e4, n2⟩ := back e4
    exact r.inj j l a c' d' e1 e2 e3 e4 (n1.trans m1) (n2.trans m2)
  · rcases get_set e2 with ⟨rfl, rfl, _⟩ | ⟨ne, q⟩
    · rw [e] at e1
      cases e1
      exact ⟨vs, upd_same, RVs.mono (List.prefix_refl _) k xs vs rv⟩
    · cases c with
      | lst zs =>
        have na : a ≠ p := fun z => by
          subst z
          exact ne (r.inj j i a _ _ e1 e q hm rfl rfl)
        exact (r.cell j a _ e1 q).keep (List.prefix_refl _) k fun ws w => by
          rw [upd_ne na]
          exact w
      | frz zs =>
        obtain ⟨ws, w1, w2⟩ := r.cell j a _ e1 q
        exact ⟨ws, w1.keep k, RVs.mono (List.prefix_refl _) k zs ws w2⟩
      | dct kvs => exact (r.cell j a _ e1 q).elim
end

/-! ### the judgement: what a run's end gives -/
/-- an exception in the air: its class, its own dict -/
def RX (g : Glob) (φ : List Addr) (G H : Hp) (x : MX) (cls : Value) (dd : Option Addr) : Prop :=
  ∃ C Cl, g.cA x.c = some C ∧ g.P.clss[x.c]? = some Cl ∧ cls = .ref C ∧ ((x.vs = [] ∧ Cl.fields = [] ∧ dd = none) ∨ ∃ d fs, dd = some d ∧ H d = some (.xd fs) ∧ G d = none ∧ fs.map (·.1) = Cl.fields ∧ RVs g φ G x.vs (fs.map (·.2)))
abbrev KM (α : Type) := α → Mem → List Addr → Hp → Hp → Prop
def Good (g : Glob) (W : WX) (σ : L2.St) (φ : List Addr) (G H : Hp) {α : Type} (r : R α) (k : KM α) : Prop := match r with
  | .ok a μ => ∀ φ1 G1 H1, Ext none φ G H φ1 G1 H1 → Rel g φ1 G1 μ → k a μ φ1 G1 H1
  | .exc x μ => ∀ φ1 G1 H1, Ext none φ G H φ1 G1 H1 → Rel g φ1 G1 μ → ∀ cls dd, RX g φ1 G1 H1 x cls dd → W cls dd σ H1
  | .no => False
section
variable {g : Glob} {W : WX} {σ : L2.St} {φ φ1 : List Addr} {G G1 H H1 : Hp} {α β : Type} {r : R α} {k k' : KM α}
theorem Good.ext (h : Good g W σ φ G H r k) (e : Ext none φ G H φ1 G1 H1) : Good g W σ φ1 G1 H1 r k := by
  cases r with
  | ok a μ => exact fun φ2 G2 H2 e2 r2 => h φ2 G2 H2 (e.trans e2) r2
  | exc x μ => exact fun φ2 G2 H2 e2 r2 => h φ2 G2 H2 (e.trans e2) r2
  | no => exact h
theorem Good.imp (h : Good g W σ φ G H r k) (f : ∀ a μ φ1 G1 H1, Ext none φ G H φ1 G1 H1 → Rel g φ1 G1 μ → k a μ φ1 G1 H1 → k' a μ φ1 G1 H1) : Good g W σ φ G H r k' := by
  cases r with
  | ok a μ => exact fun φ2 G2 H2 e2 r2 => f _ _ _ _ _ e2 r2 (h φ2 G2 H2 e2 r2)
  | exc x μ => exact h
  | no => exact h
theorem Good.imp2 (h : Good g W σ φ G H r k) (f : ∀ a μ φ1 G1 H1, r = .ok a μ → Ext none φ G H φ1 G1 H1 → Rel g φ1 G1 μ → k a μ φ1 G1 H1 → k' a μ φ1 G1 H1) : Good g W σ φ G H r k' := by
  cases r with
  | ok a μ => exact fun φ2 G2 H2 e2 r2 => f _ _ _ _ _ rfl e2 r2 (h φ2 G2 H2 e2 r2)
  | exc x μ => exact h
  | no => exact h
theorem Good.bind {k : KM β} {f : α → Mem → R β} (h : Good g W σ φ G H (r.bind f) k) : Good g W σ φ G H r fun a μ φ1 G1 H1 => Good g W σ φ1 G1 H1 (f a μ) k := by
  cases r with
  | ok a μ => exact fun φ1 G1 H1 e _ => Good.ext (r := f a μ) h e
  | exc x μ => exact h
  | no => exact h
theorem Good.opt {o : Option α} {μ : Mem} (h : Good g W σ φ G H (R.opt o μ) k) (s : Sub G H) (r : Rel g φ G μ) : ∃ a, o = some a ∧ k a μ φ G H := by
  cases o with
  | none => exact h.elim
  | some a => exact ⟨a, rfl, h φ G H (Ext.refl s) r⟩
theorem Good.here {a : α} {μ : Mem} (h : Good g W σ φ G H (.ok a μ) k) (s : Sub G H) (r : Rel g φ G μ) : k a μ φ G H := h φ G H (Ext.refl s) r
end
/-- where one stands: in a def | in an __init__ that fills the instance at x | in a block of such | in an except suite: the slot i holds the exception at a -/
inductive Md where
  | no | ini (x : Addr) | hid0 | exc (i : Nat) (a : Addr) (cls : Value) (dd : Option Addr)
def Md.ex : Md → Nat → Bool
  | .no, _ => false
  | .ini _, i => i == 0
  | .hid0, i => i == 0
  | .exc j _ _ _, i => i == j
def Md.adr : Md → Option Addr
  | .ini x => some x
  | _ => none
/-- within a comprehension -/
def Md.blk : Md → Md
  | .ini _ => .hid0
  | .exc _ _ _ _ => .no
  | m => m
/-- the names' values -/
def REnv (g : Glob) (φ : List Addr) (G : Hp) (md : Md) (σm : Env) (σ : L2.St) : Prop := σm.length = σ.length ∧ ∀ (i : Nat) v, σm[i]? = some (some v) → md.ex i = false → ∃ w, σ[i]? = some (some w) ∧ RV g φ G v w
/-- what stands beside: the instance that is filled; the exception that is handled -/
def SelfI (g : Glob) (φ : List Addr) (G H : Hp) (md : Md) (σm : Env) (σ : L2.St) : Prop := match md with
  | .ini x => ∃ C dx fs c vs Cl, σ[0]? = some (some (.ref x)) ∧ H x = some (.ins C dx fs) ∧ G x = none ∧ σm[0]? = some (some (.obj c vs)) ∧
      g.cA c = some C ∧ g.P.clss[c]? = some Cl ∧ fs.map (·.1) = Cl.fields.take vs.length ∧ RVs g φ G vs (fs.map (·.2))
  | .exc i a cls dd => ∃ c vs, σ[i]? = some (some (.ref a)) ∧ σm[i]? = some (some (.exn c vs)) ∧ RX g φ G H ⟨c, vs⟩ cls dd
  | _ => True
structure RSt (g : Glob) (φ : List Addr) (G H : Hp) (md : Md) (σm : Env) (σ : L2.St) : Prop where
  env : REnv g φ G md σm σ
  self : SelfI g φ G H md σm σ
theorem REnv.ext {g : Glob} {ex : Option Addr} {φ φ1 : List Addr} {G G1 H H1 : Hp} {md : Md} {σm : Env} {σ : L2.St} (h : REnv g φ G md σm σ) (e : Ext ex φ G H φ1 G1 H1) : REnv g φ1 G1 md σm σ :=
  ⟨h.1, fun i v e1 e2 => let ⟨w, q, r⟩ := h.2 i v e1 e2; ⟨w, q, r.ext e⟩⟩
theorem REnv.set {g : Glob} {φ : List Addr} {G : Hp} {md : Md} {σm : Env} {σ : L2.St} (h : REnv g φ G md σm σ) {i : Nat} {v : MV} {w : V} (r : RV g φ G v w) : REnv g φ G md (σm.set i (some v)) (σ.set i (some w)) := by
  refine ⟨by simp [h.1], fun j u e1 e2 => ?_⟩
  rw [List.getElem?_set] at e1 ⊢
  split at e1
  · rename_i q
    rw [if_pos q]
    split at e1
    · cases e1
      exact ⟨w, by rw [if_pos (by rw [← h.1]; assumption)], r⟩
    · cases e1
  · rename_i q
    rw [if_neg q]
    exact h.2 j u e1 e2
/-- behind an expression -/
theorem RSt.ext {g : Glob} {φ φ1 : List Addr} {G G1 H H1 : Hp} {md : Md} {σm : Env} {σ : L2.St} (h : RSt g φ G H md σm σ) (e : Ext none φ G H φ1 G1 H1) : RSt g φ1 G1 H1 md σm σ := by
  refine ⟨h.env.ext e, ?_⟩
  have hs := h.self
  cases md with
  | no => trivial
  | hid0 => trivial
  | ini x =>
    obtain ⟨C, dx, fs, c, vs, Cl, h1, h3, h4, h5, h6, h7, h8, h9⟩ := hs
    obtain ⟨q1, q2⟩ := e.same h3 h4
    exact ⟨C, dx, fs, c, vs, Cl, h1, q1, q2, h5, h6, h7, h8, h9.ext e⟩
  | exc i a cls dd =>
    obtain ⟨c, vs, h1, h2, C, Cl, h3, h4, h5, h6⟩ := hs
    refine ⟨c, vs, h1, h2, C, Cl, h3, h4, h5, ?_⟩
    rcases h6 with h6 | ⟨d, fs, h7, h8, h9, h10, h11⟩
    · exact .inl h6
    · obtain ⟨q1, q2⟩ := e.same h8 h9
      exact .inr ⟨d, fs, h7, q1, q2, h10, h11.ext e⟩
theorem Md.blk_ex {md : Md} {i : Nat} (h : md.blk.ex i = false) (hb : ∀ j a c d, md ≠ .exc j a c d) : md.ex i = false := by
  cases md with
  | exc j a c d => exact absurd rfl (hb j a c d)
  | _ => exact h
theorem REnv.blk {g : Glob} {φ : List Addr} {G : Hp} {md : Md} {σm : Env} {σ : L2.St} (h : REnv g φ G md σm σ) (hb : ∀ j a c d, md ≠ .exc j a c d) : REnv g φ G md.blk σm σ :=
  ⟨h.1, fun i v e1 e2 => h.2 i v e1 (Md.blk_ex e2 hb)⟩
/-- a block's names alone -/
theorem RSt.of {g : Glob} {φ : List Addr} {G H : Hp} {md : Md} {σm : Env} {σ : L2.St} (h : REnv g φ G md.blk σm σ) : RSt g φ G H md.blk σm σ :=
  ⟨h, by cases md <;> trivial⟩
theorem RSt.blk {g : Glob} {φ : List Addr} {G H : Hp} {md : Md} {σm : Env} {σ : L2.St} (h : REnv g φ G md σm σ) (hb : ∀ j a c d, md ≠ .exc j a c d) : RSt g φ G H md.blk σm σ :=
  ⟨⟨h.1, fun i v e1 e2 => h.2 i v e1 (Md.blk_ex e2 hb)⟩, by cases md with
    | exc j a c d => exact absurd rfl (hb j a c d)
    | _ => trivial⟩
theorem RSt.set {g : Glob} {φ : List Addr} {G H : Hp} {md : Md} {σm : Env} {σ : L2.St} (h : RSt g φ G H md σm σ) {i : Nat} {v : MV} {w : V} (r : RV g φ G v w) (hi : md.ex i = false) : RSt g φ G H md (σm.set i (some v)) (σ.set i (some w)) := by
  refine ⟨h.env.set r, ?_⟩
  have hs := h.self
  cases md with
  | no => trivial
  | hid0 => trivial
  | ini x =>
    have ne : i ≠ 0 := by simpa [Md.ex] using hi
    obtain ⟨C, dx, fs, c, vs, Cl, h1, h3, h4, h5, h6⟩ := hs
    exact ⟨C, dx, fs, c, vs, Cl, by rw [List.getElem?_set_ne ne]; exact h1, h3, h4, by rw [List.getElem?_set_ne ne]; exact h5, h6⟩
  | exc j a cls dd =>
    have ne : i ≠ j := by simpa [Md.ex] using hi
    obtain ⟨c, vs, h1, h2, h3⟩ := hs
    exact ⟨c, vs, by rw [List.getElem?_set_ne ne]; exact h1, by rw [List.getElem?_set_ne ne]; exact h2, h3⟩
abbrev kE (g : Glob) (Q : VK) : KM MV := fun v _ φ1 G1 H1 => ∀ w, RV g φ1 G1 v w → Q w H1
abbrev kEs (g : Glob) (Q : List V → Hp → Prop) : KM (List MV) := fun v _ φ1 G1 H1 => ∀ w, RVs g φ1 G1 v w → Q w H1
/-- the reading of an expression -/
def tE (g : Glob) (T : Tab) (W : WX) (md : Md) (e : E) : TE := fun σ H Q => ∃ φ G μ σm, Sub G H ∧ Rel g φ G μ ∧ RSt g φ G H md σm σ ∧ Good g W σ φ G H (evE T e σm μ) (kE g Q)
def tEs (g : Glob) (T : Tab) (W : WX) (md : Md) (es : List E) : TA := fun σ H Q => ∃ φ G μ σm, Sub G H ∧ Rel g φ G μ ∧ RSt g φ G H md σm σ ∧ Good g W σ φ G H (evEs T es σm μ) (kEs g Q)
def tT (g : Glob) (T : Tab) (W : WX) (md : Md) (e : E) : TT := fun σ H Q => ∃ φ G μ σm, Sub G H ∧ Rel g φ G μ ∧ RSt g φ G H md σm σ ∧ Good g W σ φ G H ((evE T e σm μ).bind truR) fun b _ _ _ H1 => Q b H1
end Mch

/-! ## Each operation of the machine is one of the model's -/
namespace Mch
open PySem PySem.Spec PyProof.Rows L2
section
variable {K : PySem.W.Frag} {G H : Hp} {a : Addr} {vs : List V}
theorem rd_sub {u : HO} (s : Sub G H) (h : Rd G a u) : Rd H a u := by
  rcases h with h | ⟨o, h⟩
  · exact .inl (s a _ h)
  · exact .inr ⟨o, s a _ h⟩
theorem sqT_sub (s : Sub G H) (h : SqT K G a vs) : SqT K H a vs := by
  rcases h with h | h
  · exact .inl (rd_sub s h)
  · exact .inr h
theorem sqL_sub (s : Sub G H) (h : SqL K G a vs) : SqL K H a vs := by
  rcases h with h | h
  · exact .inl (rd_sub s h)
  · exact .inr h
end
section
variable {g : Glob} {φ : List Addr} {G H : Hp} {μ : Mem} {x y : MV} {v w : V}
theorem empty_eq {xs : List MV} {vs : List V} (h : RVs g φ G xs vs) : xs.isEmpty = vs.isEmpty := by
  have l := h.len
  cases xs <;> cases vs <;> simp at l ⊢
theorem rv_non {x : MV} (h : RV g φ G x .non) : x = .non := by
  cases x <;> first | rfl | (simp [RV] at h)
/-! ### truth -/
theorem tru_of {k : Bool} (h : truM μ x = some k) (rv : RV g φ G x v) (r : Rel g φ G μ) (s : Sub G H) : TruV g.K v H k := by
  cases x with
  | non => simp only [RV] at rv; subst rv; simp only [truM, Option.some.injEq] at h; exact h.symm
  | bl b => simp only [RV] at rv; subst rv; simp only [truM, Option.some.injEq] at h; exact h.symm
  | int i => simp only [RV] at rv; subst rv; simp only [truM, Option.some.injEq] at h; exact h.symm
  | str z =>
    simp only [RV] at rv
    subst rv
    simp only [truM] at h
    split at h
    · exact ⟨by assumption, (Option.some.inj h).symm⟩
    · cases h
  | tup xs =>
    simp only [RV] at rv
    obtain ⟨a, vs, rfl, hq, hr⟩ := rv
    simp only [truM, Option.some.injEq] at h
    exact .inr (.inl ⟨vs, sqT_sub s hq, by rw [← empty_eq hr]; exact h.symm⟩)
  | ref i =>
    simp only [truM] at h
    cases e : lstAt μ i with
    | none => rw [e] at h; cases h
    | some xs =>
      rw [e] at h
      simp only [Option.map_some, Option.some.injEq] at h
      obtain ⟨a, vs, rfl, _, hq, hr⟩ := r.ref e rv
      exact .inl ⟨vs, sqL_sub s hq, by rw [← empty_eq hr]; exact h.symm⟩
  | obj _ _ => cases h
  | fn _ => cases h
  | rng _ _ _ => cases h
  | zp _ _ => cases h
  | en _ => cases h
  | exn _ _ => cases h
/-! ### data -/
theorem toDs_ok {f : MV → Option PyData} {P : V → PyData → Prop} {K : PySem.W.Frag} {n : Nat} (hf : ∀ x d v, f x = some d → RV g φ G x v → Dp K H v d ∧ d.canLay0 = true ∧ d.depth ≤ n) : ∀ (xs : List MV) (ds : List PyData) (vs : List V), toDs f xs = some ds → RVs g φ G xs vs → DpAll K H vs ds ∧ PyData.canLayAll0 ds = true ∧ PyData.depthAll ds ≤ n
  | [], ds, vs, h, r => by
    simp only [toDs, Option.some.injEq] at h
    simp only [RVs] at r
    subst h r
    exact ⟨.nil, rfl, Nat.zero_le _⟩
  | x :: xs, ds, vs, h, r => by
    simp only [RVs] at r
    obtain ⟨v, r1, rfl, hv, hr⟩ := r
    simp only [toDs] at h
    split at h
    · rename_i d ds' e1 e2
      cases h
      obtain ⟨a1, a2, a3⟩ := hf x d v e1 hv
      obtain ⟨b1, b2, b3⟩ := toDs_ok (P := P) hf xs ds' r1 e2 hr
      refine ⟨.cons a1 b1, ?_, ?_⟩
      · simp only [PyData.canLayAll0, a2, b2, Bool.and_self]
      · simp only [PyData.depthAll]
        exact Nat.max_le.mpr ⟨a3, b3⟩
    · cases h
theorem toD_ok (r : Rel g φ G μ) (s : Sub G H) : ∀ (n : Nat) (x : MV) (d : PyData) (v : V), toD μ n x = some d → RV g φ G x v → Dp g.K H v d ∧ d.canLay0 = true ∧ d.depth ≤ n
  | 0, _, _, _, h, _ => by simp only [toD] at h; cases h
  | n + 1, x, d, v, h, rv => by
    cases x with
    | non => simp only [toD, Option.some.injEq] at h; simp only [RV] at rv; subst h rv; exact ⟨.non, rfl, Nat.zero_le _⟩
    | bl b => simp only [toD, Option.some.injEq] at h; simp only [RV] at rv; subst h rv; exact ⟨.bl b, rfl, Nat.zero_le _⟩
    | int b => simp only [toD, Option.some.injEq] at h; simp only [RV] at rv; subst h rv; exact ⟨.int b, rfl, Nat.zero_le _⟩
    | str z =>
      simp only [toD] at h
      simp only [RV] at rv
      subst rv
      split at h
      · rename_i hz
        cases h
        exact ⟨.str z, by simp only [PyData.canLay0, hz], Nat.zero_le _⟩
      · cases h
    | tup xs =>
      simp only [toD] at h
      simp only [RV] at rv
      obtain ⟨a, vs, rfl, hq, hr⟩ := rv
      cases e : toDs (toD μ n) xs with
      | none => rw [e] at h; cases h
      | some ds =>
        rw [e] at h
        cases h
        obtain ⟨b1, b2, b3⟩ := toDs_ok (P := fun _ _ => True) (toD_ok r s n) xs ds vs e hr
        exact ⟨.tup (sqT_sub s hq) b1, by simpa only [PyData.canLay0] using b2, by simp only [PyData.depth]; omega⟩
    | ref i =>
      simp only [toD] at h
      cases e0 : lstAt μ i with
      | none => rw [e0] at h; cases h
      | some xs =>
        rw [e0] at h
        obtain ⟨a, vs, rfl, _, hq, hr⟩ := r.ref e0 rv
        cases e : toDs (toD μ n) xs with
        | none => simp only [e] at h; cases h
        | some ds =>
          simp only [e] at h
          cases h
          obtain ⟨b1, b2, b3⟩ := toDs_ok (P := fun _ _ => True) (toD_ok r s n) xs ds vs e hr
          exact ⟨.lst (sqL_sub s hq) b1, by simpa only [PyData.canLay0] using b2, by simp only [PyData.depth]; omega⟩
    | obj _ _ => simp only [toD] at h; cases h
    | fn _ => simp only [toD] at h; cases h
    | rng _ _ _ => simp only [toD] at h; cases h
    | zp _ _ => simp only [toD] at h; cases h
    | en _ => simp only [toD] at h; cases h
    | exn _ _ => simp only [toD] at h; cases h
theorem eqM_ok {k : Bool} (r : Rel g φ G μ) (s : Sub G H) (h : eqM μ x y = some k) (rx : RV g φ G x v) (ry : RV g φ G y w) :
    ∃ d e, Dp g.K H v d ∧ Dp g.K H w e ∧ SeqAt.shaped d = true ∧ SeqAt.shaped e = true ∧ k = PyData.eqv d e := by
  unfold eqM at h
  split at h
  · rename_i d e e1 e2
    obtain ⟨a1, a2, a3⟩ := toD_ok r s 40 x d v e1 rx
    obtain ⟨b1, b2, b3⟩ := toD_ok r s 40 y e w e2 ry
    refine ⟨d, e, a1, b1, ?_, ?_, (Option.some.inj h).symm⟩
    · exact Bool.and_eq_true_iff.mpr ⟨a2, decide_eq_true (by omega)⟩
    · exact Bool.and_eq_true_iff.mpr ⟨b2, decide_eq_true (by omega)⟩
  · cases h
/-! ### flat values -/
theorem flat_of (h : flatM x = true) (rx : RV g φ G x v) : flatV v = true := by
  cases x <;> simp only [flatM] at h <;> (try cases h) <;> simp only [RV] at rx <;> subst rx <;> rfl
theorem flats_of : ∀ {xs : List MV} {vs : List V}, xs.all flatM = true → RVs g φ G xs vs → vs.all flatV = true
  | [], vs, _, r => by simp only [RVs] at r; subst r; rfl
  | x :: xs, vs, h, r => by
    simp only [RVs] at r
    obtain ⟨v, r1, rfl, hv, hr⟩ := r
    rw [List.all_cons, Bool.and_eq_true] at h ⊢
    exact ⟨flat_of h.1 hv, flats_of h.2 hr⟩
theorem eqF_of (h : flatM x = true) (h' : flatM y = true) (rx : RV g φ G x v) (ry : RV g φ G y w) : eqF x y = eqV v w := by
  cases x <;> simp only [flatM] at h <;> (try cases h) <;> simp only [RV] at rx <;> subst rx <;>
    (cases y <;> simp only [flatM] at h' <;> (try cases h') <;> simp only [RV] at ry <;> subst ry <;> rfl)
theorem inF_of : ∀ {xs : List MV} {vs : List V}, flatM x = true → RV g φ G x v → xs.all flatM = true → RVs g φ G xs vs → (xs.any fun z => eqF z x) = inV v vs
  | [], vs, _, _, _, r => by simp only [RVs] at r; subst r; rfl
  | z :: xs, vs, h, rx, h', r => by
    simp only [RVs] at r
    obtain ⟨u, r1, rfl, hv, hr⟩ := r
    rw [List.all_cons, Bool.and_eq_true] at h'
    have ih := inF_of h rx h'.2 hr
    unfold inV at ih ⊢
    rw [List.any_cons, List.any_cons, ih, eqF_of h'.1 h hv rx]
theorem inM_ok {k : Bool} (r : Rel g φ G μ) (s : Sub G H) (h : inM μ x y = some k) (rx : RV g φ G x v) (ry : RV g φ G y w) :
    ∃ p vs, w = .ref p ∧ (SqL g.K H p vs ∨ SqT g.K H p vs) ∧ flatV v = true ∧ vs.all flatV = true ∧ k = inV v vs := by
  unfold inM at h
  split at h
  · rename_i xs e
    split at h
    · rename_i hf
      rw [Bool.and_eq_true] at hf
      cases h
      cases y with
      | tup ys =>
        simp only [Option.some.injEq] at e
        subst e
        simp only [RV] at ry
        obtain ⟨p, vs, rfl, hq, hr⟩ := ry
        exact ⟨p, vs, rfl, .inr (sqT_sub s hq), flat_of hf.1 rx, flats_of hf.2 hr, inF_of hf.1 rx hf.2 hr⟩
      | ref i =>
        obtain ⟨p, vs, rfl, _, hq, hr⟩ := r.ref e ry
        exact ⟨p, vs, rfl, .inl (sqL_sub s hq), flat_of hf.1 rx, flats_of hf.2 hr, inF_of hf.1 rx hf.2 hr⟩
      | _ => cases e
    · cases h
  · cases h
end
/-! ### the model's operations -/
section
variable {X : Cx} {pins : List (Addr × Obj)} {s : Shared} {σ : L2.St} {g : Glob} {φ : List Addr} {G H : Hp} {μ : Mem} {x y : MV} {v w : V} {a b : Value} {W : WX} {Q : VK}
theorem cmp_ok {op : CmpOp} {k : Bool} (hK : g.K = X.K) (hu : X.A.units + 64 < cLine) (I : Inv X pins σ H s) (r : Rel g φ G μ) (sb : Sub G H) (h : cmpM μ op x y = some k) (rx : RV g φ G x v) (ry : RV g φ G y w) (ra : RelV v a) (rb : RelV w b) (q : Q (.bl k) H) :
    wpAny (model X.prog X.w) X.A (compareOp op a b) (EP X pins σ Q) X.xe s := by
  have both : op = .Eq ∨ op = .NotEq ∨ op = .In ∨ op = .NotIn ∨ (op ≠ .Eq ∧ op ≠ .NotEq ∧ op ≠ .In ∧ op ≠ .NotIn) := by cases op <;> simp
  rcases both with rfl | rfl | rfl | rfl | ⟨n1, n2, n3, n4⟩
  · have h : eqM μ x y = some k := h
    obtain ⟨d, e, h1, h2, h3, h4, rfl⟩ := eqM_ok r sb h rx ry
    rw [hK] at h1 h2
    exact op_eqD hu pins s σ H v w a b Q I ra rb ⟨d, e, h1, h2, h3, h4, q⟩
  · have h : (eqM μ x y).map (!·) = some k := h
    cases e0 : eqM μ x y with
    | none => rw [e0] at h; cases h
    | some k' =>
      rw [e0] at h
      cases h
      obtain ⟨d, e, h1, h2, h3, h4, rfl⟩ := eqM_ok r sb e0 rx ry
      rw [hK] at h1 h2
      exact op_neD hu pins s σ H v w a b Q I ra rb ⟨d, e, h1, h2, h3, h4, q⟩
  · have h : inM μ x y = some k := h
    obtain ⟨p, vs, rfl, h1, h2, h3, rfl⟩ := inM_ok r sb h rx ry
    rw [hK] at h1
    exact op_in_seq pins s σ H v _ a b Q I ra rb ⟨p, vs, rfl, h1, h2, h3, q⟩
  · have h : (inM μ x y).map (!·) = some k := h
    cases e0 : inM μ x y with
    | none => rw [e0] at h; cases h
    | some k' =>
      rw [e0] at h
      cases h
      obtain ⟨p, vs, rfl, h1, h2, h3, rfl⟩ := inM_ok r sb e0 rx ry
      rw [hK] at h1
      exact op_notIn_seq pins s σ H v _ a b Q I ra rb ⟨p, vs, rfl, h1, h2, h3, q⟩
  · unfold cmpM at h
    split at h
    · exact absurd rfl n1
    · exact absurd rfl n2
    · simp only [RV] at rx ry
      subst rx ry
      cases h
      exact op_lt pins s σ H _ _ a b Q I ra rb ⟨_, _, rfl, rfl, q⟩
    · simp only [RV] at rx ry
      subst rx ry
      cases h
      exact op_le pins s σ H _ _ a b Q I ra rb ⟨_, _, rfl, rfl, q⟩
    · simp only [RV] at rx ry
      subst rx ry
      cases h
      exact op_gt pins s σ H _ _ a b Q I ra rb ⟨_, _, rfl, rfl, q⟩
    · simp only [RV] at rx ry
      subst rx ry
      cases h
      exact op_ge pins s σ H _ _ a b Q I ra rb ⟨_, _, rfl, rfl, q⟩
    · simp only [RV] at rx ry
      subst rx ry
      cases h
      exact op_le_str pins s σ H _ _ a b Q I ra rb ⟨_, _, rfl, rfl, q⟩
    · simp only [RV] at rx ry
      subst rx ry
      cases h
      exact op_lt_str pins s σ H _ _ a b Q I ra rb ⟨_, _, rfl, rfl, q⟩
    · simp only [RV] at rx ry
      subst rx ry
      cases h
      exact op_isN pins s σ H _ _ a b Q I ra rb ⟨rfl, q⟩
    · rename_i z hz
      simp only [RV] at ry
      subst ry
      cases h
      have hv : v ≠ .non := fun e => hz (rv_non (e ▸ rx))
      refine op_isN pins s σ H _ _ a b Q I ra rb ⟨rfl, ?_⟩
      rw [decide_eq_false hv]
      exact q
    · simp only [RV] at rx ry
      subst rx ry
      cases h
      exact op_notN pins s σ H _ _ a b Q I ra rb ⟨rfl, q⟩
    · rename_i z hz
      simp only [RV] at ry
      subst ry
      cases h
      have hv : v ≠ .non := fun e => hz (rv_non (e ▸ rx))
      refine op_notN pins s σ H _ _ a b Q I ra rb ⟨rfl, ?_⟩
      rw [decide_eq_false hv]
      exact q
    · exact absurd rfl n3
    · exact absurd rfl n4
    · cases h
/-- a new tuple -/
theorem newT_ok {xs : List MV} {vs : List V} (h : Good g W σ φ G H (newT xs μ) (kE g Q)) (r : Rel g φ G μ) (sb : Sub G H) (rv : RVs g φ G xs vs) : xs.length ≤ sizeLine ∧ ∀ p, H p = none → Q (.ref p) (upd H p (.tup vs)) := by
  unfold newT at h
  split at h
  · rename_i hz
    refine ⟨hz, fun p hp => ?_⟩
    have hG := sb.none hp
    have e : Ext none φ G H φ (upd G p (.tup vs)) (upd H p (.tup vs)) := by
      have := Ext.new (ex := none) (φ := φ) sb (o := .tup vs) hp []
      rwa [List.append_nil] at this
    refine h φ _ _ e (r.grow (sub_new hG)) _ ?_
    simp only [RV]
    exact ⟨p, vs, rfl, SqT.of upd_same, rv.ext e⟩
  · exact h.elim
/-- a tuple that is there -/
theorem oldT_ok {xs : List MV} {vs : List V} {p : Addr} (h : Good g W σ φ G H (newT xs μ) (kE g Q)) (r : Rel g φ G μ) (sb : Sub G H) (rv : RVs g φ G xs vs) (hp : SqT g.K G p vs) : Q (.ref p) H := by
  unfold newT at h
  split at h
  · refine h φ G H (Ext.refl sb) r _ ?_
    simp only [RV]
    exact ⟨p, vs, rfl, hp, rv⟩
  · exact h.elim
/-- a new list -/
theorem newL_ok {xs : List MV} {vs : List V} (h : Good g W σ φ G H (newL xs μ) (kE g Q)) (r : Rel g φ G μ) (sb : Sub G H) (rv : RVs g φ G xs vs) : xs.length ≤ sizeLine ∧ ∀ p, H p = none → Q (.ref p) (upd H p (.lst vs)) := by
  unfold newL at h
  split at h
  · rename_i hz
    refine ⟨hz, fun p hp => ?_⟩
    have hG := sb.none hp
    refine h (φ ++ [p]) _ _ (Ext.new sb hp [p]) (r.newL hG rv) _ ?_
    simp only [RV]
    exact ⟨p, rfl, by rw [← r.len, List.getElem?_append_right (Nat.le_refl _), Nat.sub_self]; rfl⟩
  · exact h.elim
theorem mulOk_of {i j : Int} (h : mulOk i j = true) : CMul i j ∨ CMulW i j := by
  unfold mulOk at h
  rw [Bool.or_eq_true, Bool.or_eq_true] at h
  rcases h with (h | h) | h
  · rw [Bool.and_eq_true] at h
    exact .inl (.inl ⟨of_decide_eq_true h.1, of_decide_eq_true h.2⟩)
  · rw [Bool.and_eq_true] at h
    exact .inl (.inr ⟨of_decide_eq_true h.1, of_decide_eq_true h.2⟩)
  · exact .inr (show _ < _ from of_decide_eq_true h)
theorem bin_ok {op : Operator} (hK : g.K = X.K) (I : Inv X pins σ H s) (r : Rel g φ G μ) (sb : Sub G H) (h : Good g W σ φ G H (binM μ op x y) (kE g Q)) (rx : RV g φ G x v) (ry : RV g φ G y w) (ra : RelV v a) (rb : RelV w b) :
    wpAny (model X.prog X.w) X.A (binaryOp op a b) (EP X pins σ Q) X.xe s := by
  unfold binM at h
  split at h
  · -- int + int
    simp only [RV] at rx ry
    subst rx ry
    exact op_add pins s σ H _ _ a b Q I ra rb ⟨_, _, rfl, rfl, h.here sb r _ (by simp only [RV])⟩
  · simp only [RV] at rx ry
    subst rx ry
    split at h
    · exact op_add_str pins s σ H _ _ a b Q I ra rb ⟨_, _, rfl, rfl, by assumption, h.here sb r _ (by simp only [RV])⟩
    · exact h.elim
  · -- tuples
    simp only [RV] at rx ry
    obtain ⟨p, vs, rfl, hp, hv⟩ := rx
    obtain ⟨q, ws, rfl, hq, hw⟩ := ry
    have rv := hv.append hw
    obtain ⟨hz, hnew⟩ := newT_ok h r sb rv
    rw [List.length_append, hv.len, hw.len] at hz
    rw [hK] at hp hq
    refine op_catA pins s σ H _ _ a b Q I ra rb ⟨p, q, vs, ws, rfl, rfl, sqT_sub sb hp, sqT_sub sb hq, hz, fun e => ?_, fun e1 e2 => ?_, fun _ _ => hnew⟩
    · refine oldT_ok h r sb rv ?_
      rw [hK, e]
      exact hq
    · refine oldT_ok h r sb rv ?_
      rw [hK, e2, List.append_nil]
      exact hp
  · -- lists
    rename_i i j
    split at h
    · rename_i xs ys e1 e2
      simp only [RV] at rx ry
      obtain ⟨p, rfl, hp⟩ := rx
      obtain ⟨q, rfl, hq⟩ := ry
      obtain ⟨vs, h1, hv⟩ := r.cell _ _ _ hp e1
      obtain ⟨ws, h2, hw⟩ := r.cell _ _ _ hq e2
      obtain ⟨hz, hnew⟩ := newL_ok h r sb (hv.append hw)
      rw [List.length_append, hv.len, hw.len] at hz
      exact op_cat pins s σ H _ _ a b Q I ra rb ⟨p, q, vs, ws, rfl, rfl, sb _ _ h1, sb _ _ h2, hz, hnew⟩
    · exact h.elim
  · simp only [RV] at rx ry
    subst rx ry
    exact op_sub pins s σ H _ _ a b Q I ra rb ⟨_, _, rfl, rfl, h.here sb r _ (by simp only [RV])⟩
  · simp only [RV] at rx ry
    subst rx ry
    split at h
    · rename_i hm
      rcases mulOk_of hm with hm | hm
      · exact op_mul pins s σ H _ _ a b Q I ra rb ⟨_, _, rfl, rfl, hm, h.here sb r _ (by simp only [RV])⟩
      · exact op_mulW pins s σ H _ _ a b Q I ra rb ⟨_, _, rfl, rfl, hm, h.here sb r _ (by simp only [RV])⟩
    · exact h.elim
  · simp only [RV] at rx ry
    subst rx ry
    split at h
    · rename_i i j hd
      unfold divOk at hd
      rw [Bool.and_eq_true, Bool.or_eq_true] at hd
      obtain ⟨hd0, hd⟩ := hd
      have hd0 := of_decide_eq_true hd0
      rcases hd with hd | hd
      · exact op_fdivN pins s σ H _ _ a b Q I ra rb ⟨_, _, rfl, rfl, ⟨hd0, of_decide_eq_true hd⟩, h.here sb r _ (by simp only [RV])⟩
      · rw [Bool.and_eq_true] at hd
        have h0 := of_decide_eq_true hd.1
        refine op_fdivW pins s σ H _ _ a b Q I ra rb ⟨_, _, rfl, rfl, ⟨h0, of_decide_eq_true hd.2⟩, h.here sb r _ ?_⟩
        simp only [RV]
        rw [Int.fdiv_eq_ediv_of_nonneg _ (by omega)]
    · exact h.elim
  · simp only [RV] at rx ry
    subst rx ry
    split at h
    · rename_i i j hd
      exact op_modN pins s σ H _ _ a b Q I ra rb ⟨_, _, rfl, rfl, hd, h.here sb r _ (by simp only [RV])⟩
    · exact h.elim
  · exact h.elim
end
end Mch

/-! ## Subscripts, slices, built-ins, methods, isinstance, walks -/
namespace Mch
open PySem PySem.Spec PyProof.Rows L2
section
variable {g : Glob} {W W' : WX} {σ σ' : L2.St} {φ : List Addr} {G H : Hp} {μ : Mem} {x y : MV} {v w : V}
theorem ixM_eq (n : Nat) (i : Int) : ixM n i = ixN n i := rfl
theorem sIxM_eq (n d : Nat) (o : Option Int) : sIxM n d o = HT.sIx n d o := by cases o <;> rfl
theorem at_of {xs : List MV} {vs : List V} {i : Int} {z : MV} (h : (ixM xs.length i).bind (fun j => xs[j]?) = some z) (r : RVs g φ G xs vs) : ∃ u, atI vs i = some u ∧ RV g φ G z u := by
  obtain ⟨j, h1, h2⟩ := Option.bind_eq_some_iff.mp h
  obtain ⟨u, h3, h4⟩ := r.get h2
  refine ⟨u, ?_, h4⟩
  unfold atI
  rw [← r.len, ← ixM_eq, h1]
  exact h3
theorem RVs.cut {xs : List MV} {vs : List V} (r : RVs g φ G xs vs) (lo hi : Option Int) : RVs g φ G (cutM xs lo hi) (cutV vs lo hi) := by
  unfold cutM cutV
  simp only [sIxM_eq, r.len]
  exact (r.drop _).take _
theorem Good.noX {α : Type} {r : R α} {k : KM α} (h : Good g W σ φ G H r k) (n : ∀ x μ, r ≠ .exc x μ) : Good g W' σ' φ G H r k := by
  cases r with
  | ok a μ => exact h
  | exc x μ => exact absurd rfl (n x μ)
  | no => exact h
theorem bls_of : ∀ {xs : List MV} {bs : List Bool} {vs : List V}, bls xs = some bs → RVs g φ G xs vs → vs = bs.map V.bl
  | [], bs, vs, h, r => by
    simp only [bls, Option.some.injEq] at h
    simp only [RVs] at r
    subst h r
    rfl
  | x :: xs, bs, vs, h, r => by
    simp only [RVs] at r
    obtain ⟨v, r1, rfl, hv, hr⟩ := r
    cases x <;> simp only [bls] at h <;> (try cases h)
    rename_i b
    cases e : bls xs with
    | none => rw [e] at h; cases h
    | some bs' =>
      rw [e] at h
      cases h
      simp only [RV] at hv
      subst hv
      rw [bls_of e hr]
      rfl
theorem strs_of : ∀ {xs : List MV} {bs : List Str} {vs : List V}, strs' xs = some bs → RVs g φ G xs vs → vs = bs.map V.str
  | [], bs, vs, h, r => by
    simp only [strs', Option.some.injEq] at h
    simp only [RVs] at r
    subst h r
    rfl
  | x :: xs, bs, vs, h, r => by
    simp only [RVs] at r
    obtain ⟨v, r1, rfl, hv, hr⟩ := r
    cases x <;> simp only [strs'] at h <;> (try cases h)
    rename_i b
    cases e : strs' xs with
    | none => rw [e] at h; cases h
    | some bs' =>
      rw [e] at h
      cases h
      simp only [RV] at hv
      subst hv
      rw [strs_of e hr]
      rfl
theorem bind_lst {α : Type} {f : List MV → Option α} {i : Nat} {z : α} (h : (lstAt μ i).bind f = some z) : ∃ xs, lstAt μ i = some xs ∧ f xs = some z := Option.bind_eq_some_iff.mp h
end
section
variable {X : Cx} {pins : List (Addr × Obj)} {s : Shared} {σ : L2.St} {g : Glob} {φ : List Addr} {G H : Hp} {μ : Mem} {x y : MV} {v w : V} {a b : Value} {W : WX} {Q : VK}
/-! ### a[b] -/
theorem idx_ok {z : MV} {value slice : PySem.Expr} (hK : g.K = X.K) (I : Inv X pins σ H s) (r : Rel g φ G μ) (sb : Sub G H) (h : idxM μ x y = some z) (rx : RV g φ G x v) (ry : RV g φ G y w) (ra : RelV v a) (rb : RelV w b)
    (hs : subscripted slice false a b = operate [a, b] (getItem a b)) (q : ∀ u, RV g φ G z u → Q u H) : wpAny (model X.prog X.w) X.A (subscriptTail value slice a b) (EP X pins σ Q) X.xe s := by
  unfold idxM at h
  split at h
  · simp only [RV] at rx ry
    obtain ⟨p, vs, rfl, hp, hv⟩ := rx
    subst ry
    obtain ⟨u, h1, h2⟩ := at_of h hv
    rw [hK] at hp
    exact ix_tup value slice pins s σ H _ _ a b Q I ra rb ⟨p, vs, _, u, rfl, rfl, sqT_sub sb hp, h1, q u h2⟩ hs
  · obtain ⟨xs, e, h⟩ := bind_lst h
    obtain ⟨p, vs, rfl, _, hp, hv⟩ := r.ref e rx
    simp only [RV] at ry
    subst ry
    obtain ⟨u, h1, h2⟩ := at_of h hv
    rw [hK] at hp
    exact ix_list value slice pins s σ H _ _ a b Q I ra rb ⟨p, vs, _, u, rfl, rfl, sqL_sub sb hp, h1, q u h2⟩ hs
  · simp only [RV] at rx ry
    subst rx ry
    split at h
    · rename_i z' i hz
      obtain ⟨j, h1, h2⟩ := Option.bind_eq_some_iff.mp h
      obtain ⟨c, h3, h4⟩ := Option.map_eq_some_iff.mp h2
      subst h4
      refine ix_str value slice pins s σ H _ _ a b Q I ra rb ⟨_, _, c, rfl, rfl, hz, ?_, q _ (by simp only [RV])⟩ hs
      unfold atI
      rw [← ixM_eq, h1]
      exact h3
    · cases h
  · cases h
/-! ### a[lo:hi] -/
theorem slc_noX {lo hi : Option Int} (x' : MX) (μ' : Mem) : slcM μ x lo hi ≠ .exc x' μ' := by
  unfold slcM newT newL
  split
  · split <;> simp
  · split
    · split <;> simp
    · simp
  · split <;> simp
  · simp
def rSl (g : Glob) : V → Option Int → Option Int → Hp → VK → Prop := fun v lo hi H Q => ∃ φ G μ x, Sub G H ∧ Rel g φ G μ ∧ RV g φ G x v ∧ Good g (fun _ _ _ _ => False) [] φ G H (slcM μ x lo hi) (kE g Q)
theorem sl_ok (hK : g.K = X.K) : SlR X (rSl g) := by
  intro pins s σ H v a vl vu lo hi sl Q I ra hs pl pu h
  obtain ⟨φ, G, μ, x, sb, r, rx, h⟩ := h
  unfold slcM at h
  split at h
  · simp only [RV] at rx
    obtain ⟨p, vs, rfl, hp, hv⟩ := rx
    have rv := hv.cut lo hi
    obtain ⟨hz, hn⟩ := newT_ok h r sb rv
    refine sl_tupA pins s σ H _ a vl vu lo hi sl Q I ra hs pl pu ⟨p, vs, rfl, by rw [← hK]; exact sqT_sub sb hp, fun e => ?_, fun _ => hn⟩
    refine oldT_ok h r sb rv ?_
    have e2 : cutV vs lo hi = vs := by
      unfold cutV
      rw [e.1, e.2]
      simp
    rw [e2]
    exact hp
  · split at h
    · rename_i i xs e
      obtain ⟨p, vs, rfl, _, hp, hv⟩ := r.ref e rx
      obtain ⟨hz, hn⟩ := newL_ok h r sb (hv.cut lo hi)
      exact sl_list pins s σ H _ a vl vu lo hi sl Q I ra hs pl pu ⟨p, vs, rfl, by rw [← hK]; exact sqL_sub sb hp, hn⟩
    · exact h.elim
  · split at h
    · rename_i z hz
      simp only [RV] at rx
      subst rx
      refine sl_str pins s σ H _ a vl vu lo hi sl Q I ra hs pl pu ⟨z, rfl, hz, ?_⟩
      refine h.here sb r _ ?_
      simp only [RV]
      unfold cutS cutM
      simp only [sIxM_eq]
      rfl
    · exact h.elim
  · exact h.elim
/-! ### xs[i] = v -/
theorem set_ok {z : MV} {u : V} {c : Value} {Q : Hp → Prop} (I : Inv X pins σ H s) (r : Rel g φ G μ) (sb : Sub G H) (h : Good g W σ φ G H (setM μ x y z) fun _ _ _ _ H1 => Q H1) (rx : RV g φ G x v) (ry : RV g φ G y w) (rz : RV g φ G z u) (ra : RelV v a) (rb : RelV w b) (rc : RelV u c) :
    wpAny (model X.prog X.w) X.A (setItem a b c) (fun _ s' => ∃ H', Inv X pins σ H' s' ∧ Q H') X.xe s := by
  unfold setM at h
  split at h
  · split at h
    · rename_i i k z' xs e
      split at h
      · rename_i j hj
        simp only [RV] at rx ry
        obtain ⟨p, rfl, hp⟩ := rx
        subst ry
        obtain ⟨vs, h1, hv⟩ := r.cell _ _ _ hp e
        refine set_list pins s σ H _ _ u a b c Q I ra rb rc ⟨p, vs, _, j, rfl, rfl, sb _ _ h1, by rw [← hv.len, ← ixM_eq]; exact hj, ?_⟩
        exact h φ _ _ (Ext.set sb h1 fun z => z) (r.setL hp e (hv.set j rz))
      · exact h.elim
    · exact h.elim
  · exact h.elim
/-! ### built-ins by values -/
def biName : BI → Str
  | .abs => "abs" | .len => "len" | .all => "all" | .any => "any" | .int => "int" | .str => "str" | .tuple => "tuple" | .list => "list" | .sum => "sum" | .min => "min" | .max => "max"
def biVal : BI → Value
  | .abs => .builtin "abs" | .len => .builtin "len" | .all => .builtin "all" | .any => .builtin "any" | .int => .type "int" | .str => .type "str" | .tuple => .type "tuple" | .list => .type "list" | .sum => .builtin "sum" | .min => .builtin "min" | .max => .builtin "max"
theorem bi_boot (b : BI) : bootBuiltins (biName b) = some (biVal b) := by
  cases b <;> decide +kernel
theorem bi_ok {bb : BI} {xs : List MV} {vs : List V} {us : List Value} (hc : X.calm = true) (hK : g.K = X.K) (I : Inv X pins σ H s) (r : Rel g φ G μ) (sb : Sub G H) (h : Good g W σ φ G H (biM μ bb xs) (kE g Q)) (rx : RVs g φ G xs vs) (ra : Vals vs us) :
    wpAny (model X.prog X.w) X.A (call (biVal bb) us) (EP X pins σ Q) X.xe s := by
  unfold biM at h
  split at h
  · obtain ⟨v, rfl, hv⟩ := rx.one
    simp only [RV] at hv
    subst hv
    exact call_abs pins s σ H _ us Q I ra ⟨_, rfl, h.here sb r _ (by simp only [RV])⟩
  · obtain ⟨v, rfl, hv⟩ := rx.one
    simp only [RV] at hv
    subst hv
    split at h
    · rename_i hz
      exact call_len pins s σ H _ us Q I ra ⟨_, _, rfl, ⟨hz, rfl⟩, h.here sb r _ (by simp only [RV])⟩
    · exact h.elim
  · obtain ⟨v, rfl, hv⟩ := rx.one
    simp only [RV] at hv
    obtain ⟨p, ws, rfl, hp, hw⟩ := hv
    rw [hK] at hp
    exact call_len pins s σ H _ us Q I ra ⟨_, _, rfl, .inr ⟨ws, sqT_sub sb hp, rfl⟩, h.here sb r _ (by simp only [RV]; rw [hw.len])⟩
  · obtain ⟨v, rfl, hv⟩ := rx.one
    split at h
    · rename_i i ys e
      obtain ⟨p, ws, rfl, _, hp, hw⟩ := r.ref e hv
      rw [hK] at hp
      exact call_len pins s σ H _ us Q I ra ⟨_, _, rfl, .inl ⟨ws, sqL_sub sb hp, rfl⟩, h.here sb r _ (by simp only [RV]; rw [hw.len])⟩
    · exact h.elim
  · obtain ⟨v, rfl, hv⟩ := rx.one
    split at h
    · rename_i i bs e
      obtain ⟨ys, e, eb⟩ := bind_lst e
      obtain ⟨p, ws, rfl, _, hp, hw⟩ := r.ref e hv
      rw [hK, bls_of eb hw] at hp
      exact cr_all hc pins s σ H _ us Q I ra ⟨p, bs, rfl, sqL_sub sb hp, h.here sb r _ (by simp only [RV])⟩
    · exact h.elim
  · obtain ⟨v, rfl, hv⟩ := rx.one
    split at h
    · rename_i i bs e
      obtain ⟨ys, e, eb⟩ := bind_lst e
      obtain ⟨p, ws, rfl, _, hp, hw⟩ := r.ref e hv
      rw [hK, bls_of eb hw] at hp
      exact cr_any hc pins s σ H _ us Q I ra ⟨p, bs, rfl, sqL_sub sb hp, h.here sb r _ (by simp only [RV])⟩
    · exact h.elim
  · obtain ⟨v, rfl, hv⟩ := rx.one
    simp only [RV] at hv
    subst hv
    exact call_int1 pins s σ H _ us Q I ra (.inl ⟨_, rfl, h.here sb r _ (by simp only [RV])⟩)
  · obtain ⟨v, rfl, hv⟩ := rx.one
    simp only [RV] at hv
    subst hv
    exact call_int1 pins s σ H _ us Q I ra (.inr ⟨_, rfl, h.here sb r _ (by simp only [RV])⟩)
  · obtain ⟨v, rfl, hv⟩ := rx.one
    simp only [RV] at hv
    subst hv
    split at h
    · rename_i hz
      exact call_str_int pins s σ H _ us Q I ra ⟨_, rfl, hz, h.here sb r _ (by simp only [RV])⟩
    · exact h.elim
  · obtain ⟨v, rfl, hv⟩ := rx.one
    split at h
    · rename_i i ys e
      obtain ⟨p, ws, rfl, _, hp, hw⟩ := r.ref e hv
      rw [hK] at hp
      refine call_tuple_of pins s σ H _ us Q I ra ⟨p, ws, rfl, .inl ⟨sqL_sub sb hp, fun l hl => ?_⟩⟩
      have hG := sb.none hl
      have e : Ext none φ G H φ (upd G l (.tup ws)) (upd H l (.tup ws)) := by
        have := Ext.new (ex := none) (φ := φ) sb (o := .tup ws) hl []
        rwa [List.append_nil] at this
      refine h φ _ _ e (r.grow (sub_new hG)) _ ?_
      simp only [RV]
      exact ⟨l, ws, rfl, SqT.of upd_same, hw.ext e⟩
    · exact h.elim
  · obtain ⟨v, rfl, hv⟩ := rx.one
    have q := h.here sb r v hv
    simp only [RV] at hv
    obtain ⟨p, ws, rfl, hp, hw⟩ := hv
    rw [hK] at hp
    exact call_tuple_of pins s σ H _ us Q I ra ⟨p, ws, rfl, .inr ⟨sqT_sub sb hp, q⟩⟩
  · obtain ⟨v, rfl, hv⟩ := rx.one
    split at h
    · rename_i i ys e
      obtain ⟨p, ws, rfl, _, hp, hw⟩ := r.ref e hv
      rw [hK] at hp
      exact call_list_of pins s σ H _ us Q I ra ⟨p, ws, rfl, .inl (sqL_sub sb hp), (newL_ok h r sb hw).2⟩
    · exact h.elim
  · obtain ⟨v, rfl, hv⟩ := rx.one
    simp only [RV] at hv
    obtain ⟨p, ws, rfl, hp, hw⟩ := hv
    rw [hK] at hp
    exact call_list_of pins s σ H _ us Q I ra ⟨p, ws, rfl, .inr (sqT_sub sb hp), (newL_ok h r sb hw).2⟩
  · exact h.elim
/-! ### methods of built-in types -/
def mtName : Mt → Str
  | .append => "append" | .join => "join"
def mtTy : Mt → String
  | .append => "list" | .join => "str"
def mtId : Mt → String
  | .append => "list.append" | .join => "str.join"
theorem mt_pa (m : Mt) : PlainAttrs (mtTy m) := by
  cases m
  · exact PySem.F.plainAttrs_list
  · exact PySem.F.plainAttrs_str
theorem mt_slot (m : Mt) : Slot (mtTy m) (mtName m) (mtId m) := by
  cases m
  · exact PySem.F.slot_list_append
  · exact PySem.F.slot_str_join
theorem mt_type (m : Mt) : typeOf (.builtin (mtId m)) = pure (.type "method_descriptor") := by
  cases m
  · exact PySem.F.type_list_append
  · exact PySem.F.type_str_join
/-- the receiver is of the method's type -/
theorem mth_ty {m : Mt} (hm : mthTy μ m x = true) (r : Rel g φ G μ) (sb : Sub G H) (rx : RV g φ G x v) : tyV g.K (mtTy m) v H := by
  unfold mthTy at hm
  split at hm
  · rename_i i
    cases e : lstAt μ i with
    | none => rw [e] at hm; cases hm
    | some xs =>
      obtain ⟨a, vs, rfl, _, hq, hr⟩ := r.ref e rx
      exact .inl ⟨rfl, vs, sqL_sub sb hq⟩
  · simp only [RV] at rx
    subst rx
    rfl
  · cases hm
theorem mth_noX {m : Mt} {xs : List MV} (x' : MX) (μ' : Mem) : mthM μ m x xs ≠ .exc x' μ' := by
  unfold mthM
  split
  · split
    · split <;> simp
    · simp
  · split
    · split <;> simp
    · simp
  · simp
theorem bi_noX {b : BI} {xs : List MV} (x' : MX) (μ' : Mem) : biM μ b xs ≠ .exc x' μ' := by
  unfold biM newL
  split <;> (try simp) <;> (split <;> (try simp) <;> (try (split <;> simp)))
theorem mth_ok {m : Mt} {xs : List MV} {vs : List V} {us : List Value} (hK : g.K = X.K) (I : Inv X pins σ H s) (r : Rel g φ G μ) (sb : Sub G H) (h : Good g W σ φ G H (mthM μ m x xs) (kE g Q)) (rx : RV g φ G x v) (rs : RVs g φ G xs vs) (ra : RelV v a) (rb : Vals vs us) :
    wpAny (model X.prog X.w) X.A (call (.builtin (mtId m)) (a :: us)) (EP X pins σ Q) X.xe s := by
  unfold mthM at h
  split at h
  · split at h
    · rename_i i z xs' e
      split at h
      · rename_i hz
        simp only [RV] at rx
        obtain ⟨p, rfl, hp⟩ := rx
        obtain ⟨ws, h1, hw⟩ := r.cell _ _ _ hp e
        obtain ⟨u, rfl, hu⟩ := rs.one
        refine mt_append pins s σ H _ _ a us Q I ra rb ⟨p, ws, u, rfl, rfl, sb _ _ h1, by rw [← hw.len]; exact hz, ?_⟩
        exact h φ _ _ (Ext.set sb h1 fun z => z) (r.setL hp e (hw.append (rvs_cons hu rvs_nil))) _ (by simp only [RV])
      · exact h.elim
    · exact h.elim
  · split at h
    · rename_i z i ys e
      split at h
      · rename_i hz
        obtain ⟨zs, e, eb⟩ := bind_lst e
        simp only [RV] at rx
        subst rx
        obtain ⟨u, rfl, hu⟩ := rs.one
        obtain ⟨p, ws, rfl, _, hp, hw⟩ := r.ref e hu
        rw [hK, strs_of eb hw] at hp
        exact mt_join pins s σ H _ _ a us Q I ra rb ⟨_, p, ys, rfl, rfl, .inl (sqL_sub sb hp), hz, h.here sb r _ (by simp only [RV])⟩
      · exact h.elim
    · exact h.elim
  · exact h.elim
end
/-! ### isinstance -/
/-- the built-in types as names -/
def tyNm : TyR → String
  | .int => "int" | .bool => "bool" | .str => "str" | .list => "list" | .tuple => "tuple" | .dict => "dict" | .cls _ => ""
def tyCl (g : Glob) : TyR → Option Value
  | .cls c => (g.cA c).map .ref
  | t => some (.type (tyNm t))
/-- what the head says of isinstance where own classes are in it -/
structure KitG (g : Glob) : Prop where
  b2o : ∀ n : String, n ∈ ["NoneType", "bool", "int", "str", "tuple", "list"] → ∀ c C, g.cA c = some C → PySem.W.kitOne g.K (.type n) (.ref C) = some false
  o2b : ∀ t : TyR, (∀ c, t ≠ .cls c) → ∀ c C Cl, g.cA c = some C → g.P.clss[c]? = some Cl → Cl.exc = false → PySem.W.kitOne g.K (.ref C) (.type (tyNm t)) = some false
  ins : ∀ c C Cl, g.cA c = some C → g.P.clss[c]? = some Cl → Cl.exc = false → ∀ (H : Hp) a dx fs, H a = some (.ins C dx fs) → TyOf g.K H (.ref a) (.ref C)
  o2o : ∀ c d C D Cl, g.cA c = some C → g.cA d = some D → g.P.clss[c]? = some Cl → Cl.exc = false → PySem.W.kitOne g.K (.ref C) (.ref D) = some (decide (d ∈ Cl.up))
section
variable {g : Glob} {φ : List Addr} {G H : Hp} {μ : Mem} {x y : MV} {v w : V}
theorem tyX_list {K : PySem.W.Frag} {a : Addr} {vs : List V} (h : SqL K H a vs) : TyX K H (.ref a) (.type "list") := by
  rcases h with (h | ⟨o, h⟩) | ⟨o, its, n, h, hc, _⟩
  · exact .base (.lst h)
  · exact .base (.frz h)
  · exact .kList h hc
theorem tyX_tup {K : PySem.W.Frag} {a : Addr} {vs : List V} (h : SqT K H a vs) : TyX K H (.ref a) (.type "tuple") := by
  rcases h with (h | ⟨o, h⟩) | ⟨o, its, n, h, hc, _⟩
  · exact .base (.tup h)
  · exact .fTuple h
  · exact .kTuple h hc
/-- the type of a value -/
def tyOfM (g : Glob) (μ : Mem) : MV → Option Value
  | .non => some (.type "NoneType") | .bl _ => some (.type "bool") | .int _ => some (.type "int") | .str _ => some (.type "str") | .tup _ => some (.type "tuple")
  | .ref i => (lstAt μ i).map fun _ => .type "list"
  | .obj c _ => (match g.P.clss[c]? with
    | some Cl => if Cl.exc then none else (g.cA c).map .ref
    | none => none)
  | _ => none
theorem tyOf_ok {t : Value} (hP : KitG g) (h : tyOfM g μ x = some t) (r : Rel g φ G μ) (sb : Sub G H) (rx : RV g φ G x v) : TyX g.K H v t := by
  cases x with
  | non => simp only [RV] at rx; subst rx; cases h; exact .base .non
  | bl b => simp only [RV] at rx; subst rx; cases h; exact .base (.bl b)
  | int b => simp only [RV] at rx; subst rx; cases h; exact .base (.int b)
  | str b => simp only [RV] at rx; subst rx; cases h; exact .base (.str b)
  | tup xs =>
    simp only [RV] at rx
    obtain ⟨a, vs, rfl, hq, hr⟩ := rx
    cases h
    exact tyX_tup (sqT_sub sb hq)
  | ref i =>
    simp only [tyOfM] at h
    cases e : lstAt μ i with
    | none => rw [e] at h; cases h
    | some xs =>
      rw [e] at h
      cases h
      obtain ⟨a, vs, rfl, _, hq, hr⟩ := r.ref e rx
      exact tyX_list (sqL_sub sb hq)
  | obj c xs =>
    simp only [RV] at rx
    obtain ⟨a, C, dx, fs, Cl, rfl, hc, hg, hl, _⟩ := rx
    simp only [tyOfM, hc, hl] at h
    split at h
    · cases h
    · rename_i he
      cases h
      exact .base (hP.ins c C Cl hc hl (by simpa using he) H a dx fs (sb _ _ hg))
  | fn _ => cases h
  | rng _ _ _ => cases h
  | zp _ _ => cases h
  | en _ => cases h
  | exn _ _ => cases h
theorem kit_bb : ∀ n : String, n ∈ ["NoneType", "bool", "int", "str", "tuple", "list"] → ∀ t : TyR, (∀ c, t ≠ .cls c) → kitB n (tyNm t) = some (decide (n = tyNm t ∨ (n = "bool" ∧ tyNm t = "int"))) := by
  intro n hn t ht
  have h : ∀ n ∈ ["NoneType", "bool", "int", "str", "tuple", "list"], ∀ t ∈ [TyR.int, .bool, .str, .list, .tuple, .dict], kitB n (tyNm t) = some (decide (n = tyNm t ∨ (n = "bool" ∧ tyNm t = "int"))) := by decide +kernel
  refine h n hn t ?_
  cases t with
  | cls c => exact absurd rfl (ht c)
  | _ => simp
theorem tyM_ok {t : TyR} {k : Bool} (hP : KitG g) (h : tyM g.P μ x t = some k) (r : Rel g φ G μ) (sb : Sub G H) (rx : RV g φ G x v) {u : Value} (hu : tyCl g t = some u) : ∃ tv, tyOfM g μ x = some tv ∧ PySem.W.kitOne g.K tv u = some k := by
  have both : (∃ c, t = .cls c) ∨ ∀ c, t ≠ .cls c := by cases t <;> simp
  rcases both with ⟨c, rfl⟩ | nt
  · simp only [tyCl, Option.map_eq_some_iff] at hu
    obtain ⟨C, hC, rfl⟩ := hu
    cases x <;> simp only [tyM] at h
    · cases h; exact ⟨_, rfl, hP.b2o _ (by simp) c C hC⟩
    · cases h; exact ⟨_, rfl, hP.b2o _ (by simp) c C hC⟩
    · cases h; exact ⟨_, rfl, hP.b2o _ (by simp) c C hC⟩
    · cases h; exact ⟨_, rfl, hP.b2o _ (by simp) c C hC⟩
    · cases h; exact ⟨_, rfl, hP.b2o _ (by simp) c C hC⟩
    · rename_i i
      cases e : lstAt μ i with
      | none => rw [e] at h; cases h
      | some xs =>
        rw [e] at h
        cases h
        exact ⟨.type "list", by simp only [tyOfM, e, Option.map_some], hP.b2o _ (by simp) c C hC⟩
    · rename_i d vs
      simp only [RV] at rx
      obtain ⟨a, D, dx, fs, Cl, rfl, hD, hg, hl, _⟩ := rx
      rw [hl] at h
      simp only at h
      split at h
      · cases h
      · rename_i he
        cases h
        have he' : Cl.exc = false := by simpa using he
        exact ⟨.ref D, by simp only [tyOfM, hl, he', hD, Option.map_some, Bool.false_eq_true, if_false], hP.o2o d c D C Cl hD hC hl he'⟩
    all_goals cases h
  · have hu' : u = .type (tyNm t) := by
      cases t <;> first | (exact absurd rfl (nt _)) | (simp only [tyCl, Option.some.injEq] at hu; exact hu.symm)
    subst hu'
    have kb : ∀ n : String, n ∈ ["NoneType", "bool", "int", "str", "tuple", "list"] → PySem.W.kitOne g.K (.type n) (.type (tyNm t)) = some (decide (n = tyNm t ∨ (n = "bool" ∧ tyNm t = "int"))) := fun n hn => kit_ty (kit_bb n hn t nt)
    have hk : ∀ n : String, n ∈ ["NoneType", "bool", "int", "str", "tuple", "list"] → decide (n = tyNm t ∨ (n = "bool" ∧ tyNm t = "int")) = k → PySem.W.kitOne g.K (.type n) (.type (tyNm t)) = some k := fun n hn e => by rw [kb n hn, e]
    cases x with
    | non => refine ⟨_, rfl, hk _ (by simp) ?_⟩; cases t <;> simp only [tyM] at h <;> first | (cases h; decide) | exact absurd rfl (nt _)
    | bl b => refine ⟨_, rfl, hk _ (by simp) ?_⟩; cases t <;> simp only [tyM] at h <;> first | (cases h; decide) | exact absurd rfl (nt _)
    | int b => refine ⟨_, rfl, hk _ (by simp) ?_⟩; cases t <;> simp only [tyM] at h <;> first | (cases h; decide) | exact absurd rfl (nt _)
    | str b => refine ⟨_, rfl, hk _ (by simp) ?_⟩; cases t <;> simp only [tyM] at h <;> first | (cases h; decide) | exact absurd rfl (nt _)
    | tup b => refine ⟨_, rfl, hk _ (by simp) ?_⟩; cases t <;> simp only [tyM] at h <;> first | (cases h; decide) | exact absurd rfl (nt _)
    | ref i =>
      have h' : (lstAt μ i).map (fun _ => decide (t = .list)) = some k := by cases t <;> first | exact absurd rfl (nt _) | exact h
      cases e : lstAt μ i with
      | none => rw [e] at h'; cases h'
      | some xs =>
        rw [e] at h'
        simp only [Option.map_some, Option.some.injEq] at h'
        refine ⟨.type "list", by simp only [tyOfM, e, Option.map_some], hk _ (by simp) ?_⟩
        cases t <;> first | (rw [← h']; decide) | exact absurd rfl (nt _)
    | obj c vs =>
      simp only [RV] at rx
      obtain ⟨a, D, dx, fs, Cl, rfl, hD, hg, hl, _⟩ := rx
      have h' : (if Cl.exc = true then none else some false) = some k := by cases t <;> first | exact absurd rfl (nt _) | (simp only [tyM, hl] at h; exact h)
      split at h'
      · cases h'
      · rename_i he
        cases h'
        have he' : Cl.exc = false := by simpa using he
        exact ⟨.ref D, by simp only [tyOfM, hl, he', hD, Option.map_some, Bool.false_eq_true, if_false], hP.o2b t nt c D Cl hD hl he'⟩
    | fn _ => cases t <;> simp only [tyM] at h <;> first | cases h | exact absurd rfl (nt _)
    | rng _ _ _ => cases t <;> simp only [tyM] at h <;> first | cases h | exact absurd rfl (nt _)
    | zp _ _ => cases t <;> simp only [tyM] at h <;> first | cases h | exact absurd rfl (nt _)
    | en _ => cases t <;> simp only [tyM] at h <;> first | cases h | exact absurd rfl (nt _)
    | exn _ _ => cases t <;> simp only [tyM] at h <;> first | cases h | exact absurd rfl (nt _)
theorem tysM_ok (hP : KitG g) (r : Rel g φ G μ) (sb : Sub G H) (rx : RV g φ G x v) {tv : Value} (ht : tyOfM g μ x = some tv) : ∀ (ts : List TyR) (us : List Value) (k : Bool), tysM g.P μ x ts = some k → Paired (fun t u => tyCl g t = some u) ts us → PySem.W.kitAny g.K tv us = some k
  | [], us, k, h, p => by
    cases p
    simp only [tysM, Option.some.injEq] at h
    subst h
    exact kitAny_nil
  | t :: ts, us, k, h, p => by
    cases p with
    | cons hu pr =>
      simp only [tysM] at h
      split at h
      · rename_i e
        cases h
        obtain ⟨tv', h1, h2⟩ := tyM_ok hP e r sb rx hu
        rw [ht] at h1
        cases h1
        exact kitAny_cons h2 (fun z => by cases z) fun _ => rfl
      · rename_i e
        obtain ⟨tv', h1, h2⟩ := tyM_ok hP e r sb rx hu
        rw [ht] at h1
        cases h1
        exact kitAny_cons h2 (fun _ => tysM_ok hP r sb rx ht ts _ k h pr) fun z => by cases z
      · cases h
end
end Mch

/-! ## Expressions: each form's rule -/
namespace Mch
open PySem PySem.Spec PyProof.Rows L2
/-! ### the form of the syntax -/
def plain : PySem.Expr → Bool
  | .Starred _ _ => false
  | _ => true
def notIf : PySem.Expr → Bool
  | .IfExp _ _ _ _ => false
  | _ => true
def notSlice : PySem.Expr → Bool
  | .Slice _ _ _ _ => false
  | _ => true
def notSet : PySem.Expr → Bool
  | .Set _ _ _ => false
  | _ => true
theorem star_cons {e : PySem.Expr} {es : List PySem.Expr} {env : PySem.Env} (h : plain e = true) : starEach (e :: es) env = (false, eval e env) :: starEach es env := by
  cases e <;> first | rfl | cases h
theorem star_any {es : List PySem.Expr} {env : PySem.Env} {pos : Pos} (h : es.all plain = true) : (backTo pos (starEach es env)).any (·.1) = false := by
  induction es with
  | nil => rfl
  | cons e es ih =>
    rw [List.all_cons, Bool.and_eq_true] at h
    rw [star_cons h.1]
    have := ih h.2
    unfold backTo at this ⊢
    rw [List.map_cons, List.any_cons, this]
    rfl
theorem plainIx_of {b : PySem.Expr} (h : notSlice b = true) : PlainIx b := by
  intro o i
  cases b <;> first | rfl | cases h
theorem noSet_of {b : PySem.Expr} {op : CmpOp} (h : notSet b = true) : behindInMarks op b = false := by
  cases b <;> first | rfl | cases h
theorem fold_of {b : PySem.Expr} {env : PySem.Env} (h : notSet b = true) (x : Value) : foldedSetIterable b env x = pure x := by
  cases b <;> first | rfl | cases h
section
variable {X : Cx} {g : Glob} {T : Tab} {W : WX} {md : Md} {a b c : PySem.Expr} {A B C : E} {pos : Pos}
/-- an expression of the machine read on: the first part, then the rest -/
theorem tE_imp {σ : L2.St} {H : Hp} {Q Q' : VK} (h : tE g T W md A σ H Q) (f : ∀ v H1, Q v H1 → Q' v H1) : tE g T W md A σ H Q' := by
  obtain ⟨φ, G, μ, σm, s, r, e, h⟩ := h
  exact ⟨φ, G, μ, σm, s, r, e, h.imp fun _ _ _ _ _ _ _ k w hw => f _ _ (k w hw)⟩
theorem tT_tE {σ : L2.St} {H : Hp} {Q : Bool → Hp → Prop} (h : tT g T W md A σ H Q) : tE g T W md A σ H fun x H1 => ∃ k, TruV g.K x H1 k ∧ Q k H1 := by
  obtain ⟨φ, G, μ, σm, s, r, e, h⟩ := h
  refine ⟨φ, G, μ, σm, s, r, e, h.bind.imp fun v μ1 φ1 G1 H1 e1 r1 k w hw => ?_⟩
  obtain ⟨b, hb, q⟩ := Good.opt k e1.sub r1
  exact ⟨b, tru_of hb hw r1 e1.sub, q⟩
/-- a test by its value's truth -/
theorem pt_tru (hK : g.K = X.K) (ha : PE X a (tE g T W md A)) (he : ∀ whole, isTrue a X.env whole = (do let v ← whole; standAt a.pos; holding [v] (truthy v))) : PT X a (tT g T W md A) := by
  refine ⟨fun pins s σ H Q I h => (pt_truth ha he).run pins s σ H Q I ?_⟩
  rw [← hK]
  exact tT_tE h
/-! ### constants and names -/
theorem se_const {v : MV} {u : V} (he : PE X a (tC u)) (hv : ∀ φ G, RV g φ G v u) (ev : ∀ σ μ, evE T A σ μ = .ok v μ) : PE X a (tE g T W md A) := by
  refine ⟨fun pins s σ H Q I h => he.run pins s σ H Q I ?_⟩
  obtain ⟨φ, G, μ, σm, sb, r, e, h⟩ := h
  rw [ev] at h
  exact h.here sb r _ (hv φ G)
theorem tE_var {σ : L2.St} {H : Hp} {Q : VK} {i : Nat} (hi : md.ex i = false) (h : tE g T W md (.var i) σ H Q) : tVar i σ H Q := by
  obtain ⟨φ, G, μ, σm, sb, r, e, h⟩ := h
  simp only [evE] at h
  split at h
  · rename_i v hv
    obtain ⟨w, hw, rw'⟩ := e.env.2 i v hv hi
    exact ⟨w, hw, h.here sb r w rw'⟩
  · exact h.elim
theorem se_var {i : Nat} (he : PE X a (tVar i)) (hi : md.ex i = false) : PE X a (tE g T W md (.var i)) :=
  ⟨fun pins s σ H Q I h => he.run pins s σ H Q I (tE_var hi h)⟩
/-! ### operators -/
theorem se_bin {op : Operator} (hK : g.K = X.K) (ha : PE X a (tE g T W md A)) (hb : PE X b (tE g T W md B)) : PE X (.BinOp a op b pos) (tE g T W md (.bin op A B)) := by
  refine ⟨fun pins s σ H Q I h => ?_⟩
  obtain ⟨φ, G, μ, σm, sb, r, e, h⟩ := h
  simp only [evE] at h
  refine wpAny_BinOp (bin ha hb (R := fun x y H2 => ∃ φ G μ v u, Sub G H2 ∧ Rel g φ G μ ∧ RV g φ G v x ∧ RV g φ G u y ∧ Good g W σ φ G H2 (binM μ op v u) (kE g Q)) I ⟨φ, G, μ, σm, sb, r, e, h.bind.imp fun v μ1 φ1 G1 H1 e1 r1 k w hw =>
    ⟨φ1, G1, μ1, σm, e1.sub, r1, e.ext e1, k.bind.imp fun u μ2 φ2 G2 H2 e2 r2 k w' hw' => ⟨φ2, G2, μ2, v, u, e2.sub, r2, hw.ext e2, hw', k⟩⟩⟩ fun v u s2 x y H2 I2 rx ry q => ?_)
  obtain ⟨φ2, G2, μ2, v', u', sb2, r2, rv, ru, q⟩ := q
  exact bin_ok hK I2 r2 sb2 q rv ru rx ry
theorem se_neg (ha : PE X a (tE g T W md A)) : PE X (.UnaryOp .USub a pos) (tE g T W md (.neg A)) := by
  refine ⟨fun pins s σ H Q I h => (pe_un un_neg ha).run pins s σ H Q I ?_⟩
  obtain ⟨φ, G, μ, σm, sb, r, e, h⟩ := h
  simp only [evE] at h
  refine ⟨φ, G, μ, σm, sb, r, e, h.bind.imp fun v μ1 φ1 G1 H1 e1 r1 k w hw => ?_⟩
  split at k
  · simp only [RV] at hw
    subst hw
    exact ⟨_, rfl, k.here e1.sub r1 _ (by simp only [RV])⟩
  · exact k.elim
theorem se_not (hK : g.K = X.K) (ha : PE X a (tE g T W md A)) : PE X (.UnaryOp .Not a pos) (tE g T W md (.not A)) := by
  refine ⟨fun pins s σ H Q I h => (pe_notT ha).run pins s σ H Q I ?_⟩
  obtain ⟨φ, G, μ, σm, sb, r, e, h⟩ := h
  simp only [evE] at h
  refine ⟨φ, G, μ, σm, sb, r, e, h.bind.imp fun v μ1 φ1 G1 H1 e1 r1 k w hw => ?_⟩
  obtain ⟨b, hb, q⟩ := Good.opt k.bind e1.sub r1
  rw [← hK]
  exact ⟨b, tru_of hb hw r1 e1.sub, q.here e1.sub r1 _ (by simp only [RV])⟩
theorem st_not (ha : PT X a (tT g T W md A)) : PT X (.UnaryOp .Not a pos) (tT g T W md (.not A)) := by
  refine ⟨fun pins s σ H Q I h => (pt_not ha).run pins s σ H Q I ?_⟩
  obtain ⟨φ, G, μ, σm, sb, r, e, h⟩ := h
  refine ⟨φ, G, μ, σm, sb, r, e, ?_⟩
  simp only [evE] at h
  cases e0 : evE T A σm μ with
  | ok v μ1 =>
    rw [e0] at h
    simp only [R.bind] at h ⊢
    unfold truR at h ⊢
    cases e1 : truM μ1 v with
    | none => rw [e1] at h; exact h.elim
    | some b =>
      rw [e1] at h
      exact h
  | exc x μ1 => rw [e0] at h; exact h
  | no => rw [e0] at h; exact h
theorem se_cmp {op : CmpOp} (hK : g.K = X.K) (hu : X.A.units + 64 < cLine) (hm : notSet b = true) (ha : PE X a (tE g T W md A)) (hb : PE X b (tE g T W md B)) : PE X (.Compare a [op] [b] pos) (tE g T W md (.cmp op A B)) := by
  refine ⟨fun pins s σ H Q I h => ?_⟩
  obtain ⟨φ, G, μ, σm, sb, r, e, h⟩ := h
  simp only [evE] at h
  refine wpAny_Compare1 (bin ha hb (R := fun x y H2 => ∃ φ G μ v u, Sub G H2 ∧ Rel g φ G μ ∧ RV g φ G v x ∧ RV g φ G u y ∧ ∃ k, cmpM μ op v u = some k ∧ Q (.bl k) H2) I ⟨φ, G, μ, σm, sb, r, e, h.bind.imp fun v μ1 φ1 G1 H1 e1 r1 k w hw =>
    ⟨φ1, G1, μ1, σm, e1.sub, r1, e.ext e1, k.bind.imp fun u μ2 φ2 G2 H2 e2 r2 k w' hw' => ?_⟩⟩ fun v u s2 x y H2 I2 rx ry q => ?_) (noSet_of hm)
  · obtain ⟨b', hb', q⟩ := Good.opt k.bind e2.sub r2
    exact ⟨φ2, G2, μ2, v, u, e2.sub, r2, hw.ext e2, hw', b', hb', q.here e2.sub r2 _ (by simp only [RV])⟩
  · obtain ⟨φ2, G2, μ2, v', u', sb2, r2, rv, ru, k, hk, q⟩ := q
    exact cmp_ok hK hu I2 r2 sb2 hk rv ru rx ry q
/-- a comparison's rule, whatever the values (for the chain's) -/
def rCmp (g : Glob) (op : CmpOp) : R2 := fun x y H Q => ∃ φ G μ v u k, Sub G H ∧ Rel g φ G μ ∧ RV g φ G v x ∧ RV g φ G u y ∧ cmpM μ op v u = some k ∧ Q (.bl k) H
theorem op_cmp {op : CmpOp} (hK : g.K = X.K) (hu : X.A.units + 64 < cLine) : OpR X (compareOp op) (rCmp g op) := by
  intro pins s σ H x y v u Q I rx ry h
  obtain ⟨φ, G, μ, v', u', k, sb, r, rv, ru, hk, q⟩ := h
  exact cmp_ok hK hu I r sb hk rv ru rx ry q
theorem last_of {o1 o2 : CmpOp} (hm : notSet c = true) : lastMarks [o1, o2] [b, c] = false := by
  show behindInMarks o2 c = false
  exact noSet_of hm
theorem chain_read {σ : L2.St} {H : Hp} {Q : VK} {o1 o2 : CmpOp} (h : tE g T W md (.cmp2 o1 o2 A B C) σ H Q) : tChain (rCmp g o1) (rCmp g o2) (tE g T W md A) (tE g T W md B) (tE g T W md C) σ H Q := by
  obtain ⟨φ, G, μ, σm, sb, r, e, h⟩ := h
  simp only [evE] at h
  refine ⟨φ, G, μ, σm, sb, r, e, h.bind.imp fun v μ1 φ1 G1 H1 e1 r1 k w hw => ⟨φ1, G1, μ1, σm, e1.sub, r1, e.ext e1, k.bind.imp fun u μ2 φ2 G2 H2 e2 r2 k w' hw' => ?_⟩⟩
  obtain ⟨b', hb', q⟩ := Good.opt k.bind e2.sub r2
  refine ⟨φ2, G2, μ2, v, u, b', e2.sub, r2, hw.ext e2, hw', hb', b', rfl, ?_⟩
  cases b' with
  | false =>
    rw [if_neg Bool.false_ne_true] at q ⊢
    exact q.here e2.sub r2 _ (by simp only [RV])
  | true =>
    rw [if_pos rfl] at q ⊢
    refine ⟨φ2, G2, μ2, σm, e2.sub, r2, (e.ext e1).ext e2, q.bind.imp fun z μ3 φ3 G3 H3 e3 r3 k w2 hw2 => ?_⟩
    obtain ⟨b2, hb2, q2⟩ := Good.opt k.bind e3.sub r3
    exact ⟨φ3, G3, μ3, u, z, b2, e3.sub, r3, hw'.ext e3, hw2, hb2, q2.here e3.sub r3 _ (by simp only [RV])⟩
theorem se_cmp2 {o1 o2 : CmpOp} (hK : g.K = X.K) (hu : X.A.units + 64 < cLine) (hm : notSet c = true) (ha : PE X a (tE g T W md A)) (hb : PE X b (tE g T W md B)) (hc : PE X c (tE g T W md C)) :
    PE X (.Compare a [o1, o2] [b, c] pos) (tE g T W md (.cmp2 o1 o2 A B C)) :=
  ⟨fun pins s σ H Q I h => (pe_chain (op_cmp hK hu) (op_cmp hK hu) ha hb hc (last_of hm)).run pins s σ H Q I (chain_read h)⟩
/-- what a comparison hands on is a bool -/
theorem cmp_bool {σ : L2.St} {H : Hp} {Q : Bool → Hp → Prop} (hA : ∀ σ μ v μ', evE T A σ μ = .ok v μ' → ∃ b, v = .bl b) (h : tT g T W md A σ H Q) : tE g T W md A σ H fun x H1 => ∃ k, x = .bl k ∧ Q k H1 := by
  obtain ⟨φ, G, μ, σm, s, r, e, h⟩ := h
  refine ⟨φ, G, μ, σm, s, r, e, ?_⟩
  cases e0 : evE T A σm μ with
  | ok v μ1 =>
    obtain ⟨b, rfl⟩ := hA _ _ _ _ e0
    rw [e0] at h
    intro φ1 G1 H1 e1 r1 w hw
    simp only [RV] at hw
    exact ⟨b, hw, h φ1 G1 H1 e1 r1⟩
  | exc x μ1 => rw [e0] at h; exact h
  | no => rw [e0] at h; exact h
theorem cmp_is {op : CmpOp} : ∀ (σ : Env) μ v μ', evE T (.cmp op A B) σ μ = .ok v μ' → ∃ b, v = .bl b := by
  intro σ μ v μ' h
  simp only [evE] at h
  cases e1 : evE T A σ μ with
  | ok x μ1 =>
    rw [e1] at h
    simp only [R.bind] at h
    cases e2 : evE T B σ μ1 with
    | ok y μ2 =>
      rw [e2] at h
      simp only at h
      cases e3 : cmpM μ2 op x y with
      | none => rw [e3] at h; cases h
      | some k => rw [e3] at h; simp only [R.opt, R.ok.injEq] at h; exact ⟨k, h.1.symm⟩
    | exc x' μ2 => rw [e2] at h; cases h
    | no => rw [e2] at h; cases h
  | exc x' μ1 => rw [e1] at h; cases h
  | no => rw [e1] at h; cases h
theorem cmp2_is {o1 o2 : CmpOp} : ∀ (σ : Env) μ v μ', evE T (.cmp2 o1 o2 A B C) σ μ = .ok v μ' → ∃ b, v = .bl b := by
  intro σ μ v μ' h
  simp only [evE] at h
  cases e1 : evE T A σ μ with
  | ok x μ1 =>
    rw [e1] at h
    simp only [R.bind] at h
    cases e2 : evE T B σ μ1 with
    | ok y μ2 =>
      rw [e2] at h
      simp only at h
      cases e3 : cmpM μ2 o1 x y with
      | none => rw [e3] at h; cases h
      | some k =>
        rw [e3] at h
        simp only [R.opt] at h
        cases k with
        | false => simp only [R.ok.injEq, Bool.false_eq_true, if_false] at h; exact ⟨false, h.1.symm⟩
        | true =>
          simp only [if_true] at h
          cases e4 : evE T C σ μ2 with
          | ok z μ3 =>
            rw [e4] at h
            simp only at h
            cases e5 : cmpM μ3 o2 y z with
            | none => rw [e5] at h; cases h
            | some k => rw [e5] at h; simp only [R.opt, R.ok.injEq] at h; exact ⟨k, h.1.symm⟩
          | exc x' μ3 => rw [e4] at h; cases h
          | no => rw [e4] at h; cases h
    | exc x' μ2 => rw [e2] at h; cases h
    | no => rw [e2] at h; cases h
  | exc x' μ1 => rw [e1] at h; cases h
  | no => rw [e1] at h; cases h
/-- one comparison read as the operator's rule -/
theorem cmp_read {σ : L2.St} {H : Hp} {Q : VK} {op : CmpOp} (h : tE g T W md (.cmp op A B) σ H Q) : tOp (rCmp g op) (tE g T W md A) (tE g T W md B) σ H Q := by
  obtain ⟨φ, G, μ, σm, sb, r, e, h⟩ := h
  simp only [evE] at h
  refine ⟨φ, G, μ, σm, sb, r, e, h.bind.imp fun v μ1 φ1 G1 H1 e1 r1 k w hw => ⟨φ1, G1, μ1, σm, e1.sub, r1, e.ext e1, k.bind.imp fun u μ2 φ2 G2 H2 e2 r2 k w' hw' => ?_⟩⟩
  obtain ⟨b', hb', q⟩ := Good.opt k.bind e2.sub r2
  exact ⟨φ2, G2, μ2, v, u, b', e2.sub, r2, hw.ext e2, hw', hb', q.here e2.sub r2 _ (by simp only [RV])⟩
theorem st_cmp {op : CmpOp} (hK : g.K = X.K) (hu : X.A.units + 64 < cLine) (hm : notSet b = true) (ha : PE X a (tE g T W md A)) (hb : PE X b (tE g T W md B)) : PT X (.Compare a [op] [b] pos) (tT g T W md (.cmp op A B)) :=
  ⟨fun pins s σ H Q I h => (pt_cmpR (op_cmp hK hu) ha hb (noSet_of hm)).run pins s σ H Q I (cmp_read (cmp_bool cmp_is h))⟩
theorem st_cmp2 {o1 o2 : CmpOp} (hK : g.K = X.K) (hu : X.A.units + 64 < cLine) (hm : notSet c = true) (ha : PE X a (tE g T W md A)) (hb : PE X b (tE g T W md B)) (hc : PE X c (tE g T W md C)) :
    PT X (.Compare a [o1, o2] [b, c] pos) (tT g T W md (.cmp2 o1 o2 A B C)) :=
  ⟨fun pins s σ H Q I h => (pt_chain (op_cmp hK hu) (op_cmp hK hu) ha hb hc (last_of hm)).run pins s σ H Q I (chain_read (cmp_bool cmp2_is h))⟩
/-! ### and, or, if -/
theorem se_and {rest : List PySem.Expr} (hK : g.K = X.K) (ha : PE X a (tE g T W md A)) (hb : PE X (.BoolOp .And (b :: rest) pos) (tE g T W md B)) : PE X (.BoolOp .And (a :: b :: rest) pos) (tE g T W md (.and A B)) := by
  refine ⟨fun pins s σ H Q I h => (pe_andT ha hb).run pins s σ H Q I ?_⟩
  obtain ⟨φ, G, μ, σm, sb, r, e, h⟩ := h
  simp only [evE] at h
  refine ⟨φ, G, μ, σm, sb, r, e, h.bind.imp fun v μ1 φ1 G1 H1 e1 r1 k w hw => ?_⟩
  obtain ⟨b, hb, q⟩ := Good.opt k.bind e1.sub r1
  rw [← hK]
  refine ⟨b, tru_of hb hw r1 e1.sub, ?_⟩
  cases b with
  | true =>
    rw [if_pos rfl] at q ⊢
    exact ⟨φ1, G1, μ1, σm, e1.sub, r1, e.ext e1, q⟩
  | false =>
    rw [if_neg Bool.false_ne_true] at q ⊢
    exact q.here e1.sub r1 w hw
theorem se_or {rest : List PySem.Expr} (hK : g.K = X.K) (ha : PE X a (tE g T W md A)) (hb : PE X (.BoolOp .Or (b :: rest) pos) (tE g T W md B)) : PE X (.BoolOp .Or (a :: b :: rest) pos) (tE g T W md (.or A B)) := by
  refine ⟨fun pins s σ H Q I h => (pe_orT ha hb).run pins s σ H Q I ?_⟩
  obtain ⟨φ, G, μ, σm, sb, r, e, h⟩ := h
  simp only [evE] at h
  refine ⟨φ, G, μ, σm, sb, r, e, h.bind.imp fun v μ1 φ1 G1 H1 e1 r1 k w hw => ?_⟩
  obtain ⟨b, hb, q⟩ := Good.opt k.bind e1.sub r1
  rw [← hK]
  refine ⟨b, tru_of hb hw r1 e1.sub, ?_⟩
  cases b with
  | false =>
    rw [if_neg Bool.false_ne_true] at q ⊢
    exact ⟨φ1, G1, μ1, σm, e1.sub, r1, e.ext e1, q⟩
  | true =>
    rw [if_pos rfl] at q ⊢
    exact q.here e1.sub r1 w hw
/-- a test read on: the first part's truth, then the rest -/
theorem tT_and {σ : L2.St} {H : Hp} {Q : Bool → Hp → Prop} (h : tT g T W md (.and A B) σ H Q) : tAnd (tT g T W md A) (tT g T W md B) σ H Q := by
  obtain ⟨φ, G, μ, σm, sb, r, e, h⟩ := h
  refine ⟨φ, G, μ, σm, sb, r, e, ?_⟩
  simp only [evE] at h
  cases e0 : evE T A σm μ with
  | ok v μ1 =>
    rw [e0] at h
    simp only [R.bind] at h ⊢
    unfold truR at h ⊢
    cases e1 : truM μ1 v with
    | none => rw [e1] at h; exact h.elim
    | some b =>
      rw [e1] at h
      intro φ1 G1 H1 x1 r1
      cases b with
      | true => exact ⟨φ1, G1, μ1, σm, x1.sub, r1, e.ext x1, Good.ext (r := (evE T B σm μ1).bind truR) h x1⟩
      | false =>
        simp only [R.opt, Bool.false_eq_true, if_false, e1] at h
        exact h φ1 G1 H1 x1 r1
  | exc x μ1 => rw [e0] at h; exact h
  | no => rw [e0] at h; exact h
theorem tT_or {σ : L2.St} {H : Hp} {Q : Bool → Hp → Prop} (h : tT g T W md (.or A B) σ H Q) : tOr (tT g T W md A) (tT g T W md B) σ H Q := by
  obtain ⟨φ, G, μ, σm, sb, r, e, h⟩ := h
  refine ⟨φ, G, μ, σm, sb, r, e, ?_⟩
  simp only [evE] at h
  cases e0 : evE T A σm μ with
  | ok v μ1 =>
    rw [e0] at h
    simp only [R.bind] at h ⊢
    unfold truR at h ⊢
    cases e1 : truM μ1 v with
    | none => rw [e1] at h; exact h.elim
    | some b =>
      rw [e1] at h
      intro φ1 G1 H1 x1 r1
      cases b with
      | false => exact ⟨φ1, G1, μ1, σm, x1.sub, r1, e.ext x1, Good.ext (r := (evE T B σm μ1).bind truR) h x1⟩
      | true =>
        simp only [R.opt, if_true, e1] at h
        exact h φ1 G1 H1 x1 r1
  | exc x μ1 => rw [e0] at h; exact h
  | no => rw [e0] at h; exact h
theorem sw_and {rest : List PySem.Expr} (ha : PT X a (tT g T W md A)) (hb : PW X (.BoolOp .And (b :: rest) pos) (tT g T W md B)) : PW X (.BoolOp .And (a :: b :: rest) pos) (tT g T W md (.and A B)) :=
  ⟨fun wh pins s σ H Q I h => (pw_and ha hb).run wh pins s σ H Q I (tT_and h)⟩
theorem sw_or {rest : List PySem.Expr} (ha : PT X a (tT g T W md A)) (hb : PW X (.BoolOp .Or (b :: rest) pos) (tT g T W md B)) : PW X (.BoolOp .Or (a :: b :: rest) pos) (tT g T W md (.or A B)) :=
  ⟨fun wh pins s σ H Q I h => (pw_or ha hb).run wh pins s σ H Q I (tT_or h)⟩
theorem se_ite (hc : PT X c (tT g T W md C)) (ha : PE X a (tE g T W md A)) (hb : PE X b (tE g T W md B)) : PE X (.IfExp c a b pos) (tE g T W md (.ite C A B)) := by
  refine ⟨fun pins s σ H Q I h => (pe_ifExp hc ha hb).run pins s σ H Q I ?_⟩
  obtain ⟨φ, G, μ, σm, sb, r, e, h⟩ := h
  refine ⟨φ, G, μ, σm, sb, r, e, ?_⟩
  simp only [evE] at h
  cases e0 : evE T C σm μ with
  | ok v μ1 =>
    rw [e0] at h
    simp only [R.bind] at h ⊢
    unfold truR at h ⊢
    cases e1 : truM μ1 v with
    | none => rw [e1] at h; exact h.elim
    | some b =>
      rw [e1] at h
      intro φ1 G1 H1 x1 r1
      cases b with
      | false => exact ⟨φ1, G1, μ1, σm, x1.sub, r1, e.ext x1, Good.ext (r := evE T B σm μ1) h x1⟩
      | true => exact ⟨φ1, G1, μ1, σm, x1.sub, r1, e.ext x1, Good.ext (r := evE T A σm μ1) h x1⟩
  | exc x μ1 => rw [e0] at h; exact h
  | no => rw [e0] at h; exact h
/-! ### rows of expressions -/
theorem sa_nil : PA X [] (tEs g T W md []) := by
  refine ⟨fun pos pins s σ H Q I h => pa_nil.run pos pins s σ H Q I ?_⟩
  obtain ⟨φ, G, μ, σm, sb, r, e, h⟩ := h
  simp only [evEs] at h
  exact h.here sb r _ rvs_nil
theorem sa_cons {es : List PySem.Expr} {As : List E} (hp : plain a = true) (ha : PE X a (tE g T W md A)) (hr : PA X es (tEs g T W md As)) : PA X (a :: es) (tEs g T W md (A :: As)) := by
  refine ⟨fun pos pins s σ H Q I h => (pa_cons ha hr (star_cons hp)).run pos pins s σ H Q I ?_⟩
  obtain ⟨φ, G, μ, σm, sb, r, e, h⟩ := h
  simp only [evEs] at h
  refine ⟨φ, G, μ, σm, sb, r, e, h.bind.imp fun v μ1 φ1 G1 H1 e1 r1 k w hw => ⟨φ1, G1, μ1, σm, e1.sub, r1, e.ext e1, k.bind.imp fun u μ2 φ2 G2 H2 e2 r2 k ws hws => ?_⟩⟩
  exact k.here e2.sub r2 _ (rvs_cons (hw.ext e2) hws)
theorem se_tup {es : List PySem.Expr} {As : List E} {j : Nat} (h : PA X es (tEs g T W md As)) : PE X (.Tuple es j pos) (tE g T W md (.tup As)) := by
  refine ⟨fun pins s σ H Q I hh => (pe_tup h).run pins s σ H Q I ?_⟩
  obtain ⟨φ, G, μ, σm, sb, r, e, h⟩ := hh
  simp only [evE] at h
  refine ⟨φ, G, μ, σm, sb, r, e, h.bind.imp fun v μ1 φ1 G1 H1 e1 r1 k ws hws => ?_⟩
  obtain ⟨hz, hn⟩ := newT_ok k r1 e1.sub hws
  exact ⟨by rw [← hws.len]; exact hz, hn⟩
theorem se_lst {es : List PySem.Expr} {As : List E} (h : PA X es (tEs g T W md As)) : PE X (.List es pos) (tE g T W md (.lst As)) := by
  refine ⟨fun pins s σ H Q I hh => (pe_lst h).run pins s σ H Q I ?_⟩
  obtain ⟨φ, G, μ, σm, sb, r, e, h⟩ := hh
  simp only [evE] at h
  refine ⟨φ, G, μ, σm, sb, r, e, h.bind.imp fun v μ1 φ1 G1 H1 e1 r1 k ws hws => ?_⟩
  obtain ⟨hz, hn⟩ := newL_ok k r1 e1.sub hws
  exact ⟨by rw [← hws.len]; exact hz, hn⟩
/-! ### subscripts and slices -/
def rIdx (g : Glob) : R2 := fun x y H Q => ∃ φ G μ v u z, Sub G H ∧ Rel g φ G μ ∧ RV g φ G v x ∧ RV g φ G u y ∧ idxM μ v u = some z ∧ ∀ w, RV g φ G z w → Q w H
theorem ix_ok (hK : g.K = X.K) : IxR X (rIdx g) := by
  intro value slice pins s σ H x y v u Q I rx ry h hs
  obtain ⟨φ, G, μ, v', u', z, sb, r, rv, ru, hz, q⟩ := h
  exact idx_ok hK I r sb hz rv ru rx ry hs q
theorem se_idx (hK : g.K = X.K) (hm : notSlice b = true) (ha : PE X a (tE g T W md A)) (hb : PE X b (tE g T W md B)) : PE X (.Subscript a b pos) (tE g T W md (.idx A B)) := by
  refine ⟨fun pins s σ H Q I h => (pe_ix (ix_ok hK) ha hb (plainIx_of hm)).run pins s σ H Q I ?_⟩
  obtain ⟨φ, G, μ, σm, sb, r, e, h⟩ := h
  simp only [evE] at h
  refine ⟨φ, G, μ, σm, sb, r, e, h.bind.imp fun v μ1 φ1 G1 H1 e1 r1 k w hw => ⟨φ1, G1, μ1, σm, e1.sub, r1, e.ext e1, k.bind.imp fun u μ2 φ2 G2 H2 e2 r2 k w' hw' => ?_⟩⟩
  obtain ⟨z, hz, q⟩ := Good.opt k e2.sub r2
  exact ⟨φ2, G2, μ2, v, u, z, e2.sub, r2, hw.ext e2, hw', hz, q⟩
/-- a part of a slice -/
def tP (g : Glob) (T : Tab) (W : WX) (md : Md) (A : E) : TO := fun σ H Q => ∃ φ G μ σm, Sub G H ∧ Rel g φ G μ ∧ RSt g φ G H md σm σ ∧ Good g W σ φ G H (partR A.isNon (evE T A σm μ) μ) fun o _ _ _ H1 => Q o H1
theorem po_no : PO X none (tP g T W md .non) := by
  refine ⟨fun pins s σ H Q I h => po_none.run pins s σ H Q I ?_⟩
  obtain ⟨φ, G, μ, σm, sb, r, e, h⟩ := h
  exact Good.here (a := none) (μ := μ) h sb r
theorem po_so (hA : A.isNon = false) (ha : PE X a (tE g T W md A)) : PO X (some a) (tP g T W md A) := by
  refine ⟨fun pins s σ H Q I h => (po_some ha).run pins s σ H Q I ?_⟩
  obtain ⟨φ, G, μ, σm, sb, r, e, h⟩ := h
  rw [hA] at h
  have h : Good g W σ φ G H ((evE T A σm μ).bind _) _ := h
  refine ⟨φ, G, μ, σm, sb, r, e, h.bind.imp fun v μ1 φ1 G1 H1 e1 r1 k w hw => ?_⟩
  split at k
  · simp only [RV] at hw
    exact ⟨_, hw, k.here e1.sub r1⟩
  · exact k.elim
theorem se_slc {lo hi : Option PySem.Expr} {L Hh : E} {p2 : Pos} (hK : g.K = X.K) (ha : PE X a (tE g T W md A)) (hl : PO X lo (tP g T W md L)) (hh : PO X hi (tP g T W md Hh)) : PE X (.Subscript a (.Slice lo hi none p2) pos) (tE g T W md (.slc A L Hh)) := by
  refine ⟨fun pins s σ H Q I h => (pe_slice (sl_ok hK) ha hl hh).run pins s σ H Q I ?_⟩
  obtain ⟨φ, G, μ, σm, sb, r, e, h⟩ := h
  simp only [evE] at h
  refine ⟨φ, G, μ, σm, sb, r, e, h.bind.imp fun v μ1 φ1 G1 H1 e1 r1 k w hw => ⟨φ1, G1, μ1, σm, e1.sub, r1, e.ext e1, k.bind.imp fun l μ2 φ2 G2 H2 e2 r2 k =>
    ⟨φ2, G2, μ2, σm, e2.sub, r2, (e.ext e1).ext e2, k.bind.imp fun u μ3 φ3 G3 H3 e3 r3 k => ?_⟩⟩⟩
  exact ⟨φ3, G3, μ3, v, e3.sub, r3, (hw.ext e2).ext e3, k.noX fun x' μ' => slc_noX x' μ'⟩
end
end Mch

/-! ## Calls, built-ins, methods, fields -/
namespace Mch
open PySem PySem.Spec PyProof.Rows L2
theorem evEs_len {T : Tab} : ∀ {As : List E} {σ : Env} {μ : Mem} {xs : List MV} {μ' : Mem}, evEs T As σ μ = .ok xs μ' → xs.length = As.length
  | [], σ, μ, xs, μ', h => by
    simp only [evEs, R.ok.injEq] at h
    rw [← h.1]
    rfl
  | A :: As, σ, μ, xs, μ', h => by
    simp only [evEs] at h
    cases e1 : evE T A σ μ with
    | ok x μ1 =>
      rw [e1] at h
      simp only [R.bind] at h
      cases e2 : evEs T As σ μ1 with
      | ok ys μ2 =>
        rw [e2] at h
        simp only [R.ok.injEq] at h
        rw [← h.1, List.length_cons, List.length_cons, evEs_len e2]
      | exc x' μ2 => rw [e2] at h; cases h
      | no => rw [e2] at h; cases h
    | exc x' μ1 => rw [e1] at h; cases h
    | no => rw [e1] at h; cases h
/-- what a def of the machine promises -/
def spM (g : Glob) (T : Tab) (f : Nat) : Sp := fun vs H Q Ex => ∃ φ G μ xs D, Sub G H ∧ Rel g φ G μ ∧ RVs g φ G xs vs ∧ T.P.defs[f]? = some D ∧ xs.length = D.np ∧ Good g (fun cls dd _ H1 => Ex cls dd H1) [] φ G H (T.call f xs μ) (kE g Q)
/-- the def f of the machine is one of the text's -/
structure FunOk (g : Glob) (T : Tab) (P : Program) (w : World) (K : PySem.W.Frag) (mg : Str → Option Value) (base : Heap) (k : Nat) (name : Str) (f : Nat) : Prop where
  ex : ∃ (a : Addr) (fd : FuncData) (ps : List Str) (dvs : List V) (D : Def), g.fA f = some a ∧ mg name = some (.ref a) ∧ PySem.W.keepIn K (.ref a) = true ∧ T.P.defs[f]? = some D ∧ (∀ φ G, RVs g φ G D.dfl dvs) ∧
    (∀ m, m ≤ dvs.length → ∃ ds, Vals (dvs.drop m) ds ∧ Binds K fd ps ds) ∧ FnOk P w K mg base (L2.CX P w) k a fd ps (spM g T f) ∧ (∀ xs μ, (fullArgs D xs).length = D.np → T.call f xs μ = T.call f (fullArgs D xs) μ) ∧ (∀ xs μ, T.call f xs μ ≠ .no → (fullArgs D xs).length = D.np)
section
variable {X : Cx} {g : Glob} {T : Tab} {W : WX} {md : Md} {a b c : PySem.Expr} {A B C : E} {pos : Pos} {k : Nat}
theorem good_no {α : Type} {σ : L2.St} {φ : List Addr} {G H : Hp} {r : R α} {kk : KM α} (h : Good g W σ φ G H r kk) : r ≠ .no := by
  rintro rfl
  exact h
theorem good_W {α : Type} {σ : L2.St} {φ : List Addr} {G H : Hp} {r : R α} {kk : KM α} (h : Good g W σ φ G H r kk) : Good g (fun cls dd _ H1 => WE W σ cls dd H1) [] φ G H r kk := by
  cases r <;> exact h
/-- a call's arguments, then the def's promise -/
theorem call_read {f : Nat} {D : Def} {dvs : List V} {As : List E} {σ : L2.St} {H : Hp} {Q : VK} (hD : T.P.defs[f]? = some D) (hv : ∀ φ G, RVs g φ G D.dfl dvs) (hf : ∀ xs μ, (fullArgs D xs).length = D.np → T.call f xs μ = T.call f (fullArgs D xs) μ) (hn : ∀ xs μ, T.call f xs μ ≠ .no → (fullArgs D xs).length = D.np)
    (h : tE g T W md (.call f As) σ H Q) : tCallSD (spM g T f) (dvs.drop (D.dfl.length - (D.np - As.length))) (WE W) (tEs g T W md As) σ H Q := by
  obtain ⟨φ, G, μ, σm, sb, r, e, h⟩ := h
  simp only [evE] at h
  refine ⟨φ, G, μ, σm, sb, r, e, h.bind.imp2 fun xs μ1 φ1 G1 H1 e0 e1 r1 k vs hvs => ?_⟩
  have hl := evEs_len e0
  have hnp := hn _ _ (good_no k)
  refine ⟨φ1, G1, μ1, fullArgs D xs, D, e1.sub, r1, ?_, hD, hnp, ?_⟩
  · unfold fullArgs
    rw [hl]
    exact hvs.append ((hv φ1 G1).drop _)
  · rw [← hf _ _ hnp]
    exact good_W k
theorem tEs_nil {σ : L2.St} {H : Hp} {Q : List V → Hp → Prop} (h : tEs g T W md [] σ H Q) : Q [] H := by
  obtain ⟨φ, G, μ, σm, sb, r, e, h⟩ := h
  simp only [evEs] at h
  exact h.here sb r [] rvs_nil
theorem se_call {x : Str} {p : Pos} {f : Nat} {es : List PySem.Expr} {As : List E} (hF : FunOk g T X.prog X.w X.K X.mg X.base k x f) (hr : Room k X.A) (tk : Takes X W) (hg : Gl X x) (hdb : (x == ("__debug__" : Str)) = false) (hp : es.all plain = true) (hl : es.length = As.length) (ha : PA X es (tEs g T W md As)) :
    PE X (.Call (.Name x p) es [] pos) (tE g T W md (.call f As)) := by
  obtain ⟨a, fd, ps, dvs, D, h1, h2, h3, h4, h5, h6, h7, h8, h9⟩ := hF.ex
  have h5l : D.dfl.length = dvs.length := (h5 [] fun _ => none).len
  obtain ⟨ds, hd, hb⟩ := h6 (min (D.dfl.length - (D.np - As.length)) dvs.length) (Nat.min_le_right _ _)
  have em : dvs.drop (min (D.dfl.length - (D.np - As.length)) dvs.length) = dvs.drop (D.dfl.length - (D.np - As.length)) := by
    rw [Nat.min_eq_left]
    omega
  rw [em] at hd
  refine ⟨fun pins s σ H Q I h => ?_⟩
  have h := call_read h4 h5 h8 h9 h
  cases es with
  | nil =>
    refine wpAny_Call_Name_kw (ld_glob I hg h2 ?_ hdb)
    refine PySem.W.callWith_K0 I.kIn h3 ?_
    have e0 : As = [] := List.length_eq_zero_iff.mp hl.symm
    subst e0
    exact run_fnSD (us := []) (E := WE W) h7 hr hb hd (passAt tk σ) I .nil (tEs_nil h)
  | cons e es =>
    rw [List.all_cons, Bool.and_eq_true] at hp
    exact (pe_callSD h7 hr hg h2 h3 hb hd (fun σ => passAt tk σ) ha hdb (star_cons hp.1) (star_any hp.2)).run pins s σ H Q I h
/-- a call of the def that a name holds -/
theorem se_callv {x : Str} {p : Pos} {i : Nat} {es : List PySem.Expr} {As : List E} (hF : ∀ f a, g.fA f = some a → ∃ name, FunOk g T X.prog X.w X.K X.mg X.base k name f) (hr : Room k X.A) (tk : Takes X W) (hN : X.N[i]? = some x) (hv : Vis X.env.scope x) (hi : md.ex i = false)
    (hdb : (x == ("__debug__" : Str)) = false) (hcd : (x == ("__classdict__" : Str)) = false) (hp : es.all plain = true) (hl : es.length = As.length) (ha : PA X es (tEs g T W md As)) :
    PE X (.Call (.Name x p) es [] pos) (tE g T W md (.callv i As)) := by
  refine ⟨fun pins s σ H Q I h => ?_⟩
  obtain ⟨φ, G, μ, σm, sb, r, e, h⟩ := h
  simp only [evE] at h
  split at h
  · rename_i f hf
    obtain ⟨w, hw, rw'⟩ := e.env.2 i _ hf hi
    simp only [RV] at rw'
    obtain ⟨a, rfl, hfa⟩ := rw'
    obtain ⟨name, hO⟩ := hF f a hfa
    obtain ⟨a', fd, ps, dvs, D, h1, h2, h3, h4, h5, h6, h7, h8, h9⟩ := hO.ex
    rw [hfa] at h1
    cases h1
    have h5l : D.dfl.length = dvs.length := (h5 [] fun _ => none).len
    obtain ⟨ds, hd, hb⟩ := h6 (min (D.dfl.length - (D.np - As.length)) dvs.length) (Nat.min_le_right _ _)
    have em : dvs.drop (min (D.dfl.length - (D.np - As.length)) dvs.length) = dvs.drop (D.dfl.length - (D.np - As.length)) := by
      rw [Nat.min_eq_left]
      omega
    rw [em] at hd
    have h : tCallSD (spM g T f) (dvs.drop (D.dfl.length - (D.np - As.length))) (WE W) (tEs g T W md As) σ H Q :=
      call_read h4 h5 h8 h9 ⟨φ, G, μ, σm, sb, r, e, by simp only [evE]; exact h⟩
    refine wpAny_Call_Name_kw (thn ((pe_var (pos := p) hN hv hdb hcd).run pins s σ H (fun v H1 => v = .ref a ∧ H1 = H) I ⟨.ref a, hw, rfl, rfl⟩) fun u s1 ⟨v, H1, I1, r1, q1⟩ => ?_)
    obtain ⟨rfl, rfl⟩ := q1
    cases r1
    cases es with
    | nil =>
      have e0 : As = [] := List.length_eq_zero_iff.mp hl.symm
      subst e0
      refine PySem.W.callWith_K0 I1.kIn h3 ?_
      exact run_fnSD (us := []) (E := WE W) h7 hr hb hd (passAt tk σ) I1 .nil (tEs_nil h)
    | cons e0 es =>
      rw [List.all_cons, Bool.and_eq_true] at hp
      refine PySem.W.callWith_K (h₀ := X.base) I1.ok.mod.kin h3 (thn (ha.run pos pins s1 σ _ _ I1 h) fun us s2 ⟨vs, H2, I2, r, q⟩ => ⟨I2.kIn, ?_⟩) (star_cons hp.1) (star_any hp.2)
      exact run_fnSD (E := WE W) h7 hr hb hd (passAt tk σ) I2 r q
  · exact h.elim
/-! ### built-ins by name -/
def rBi (g : Glob) (b : BI) : List V → Hp → VK → Prop := fun vs H Q => ∃ φ G μ xs, Sub G H ∧ Rel g φ G μ ∧ RVs g φ G xs vs ∧ Good g (fun _ _ _ _ => False) [] φ G H (biM μ b xs) (kE g Q)
theorem call_bi {b : BI} (hc : X.calm = true) (hK : g.K = X.K) : CallR X (biVal b) (rBi g b) := by
  intro pins s σ H vs us Q I rv h
  obtain ⟨φ, G, μ, xs, sb, r, rx, h⟩ := h
  exact bi_ok (W := fun _ _ _ _ => False) hc hK I r sb (h.noX fun x' μ' => bi_noX x' μ') rx rv
theorem bi_read {b : BI} {As : List E} {σ : L2.St} {H : Hp} {Q : VK} (h : tE g T W md (.bi b As) σ H Q) : tCB (rBi g b) (tEs g T W md As) σ H Q := by
  obtain ⟨φ, G, μ, σm, sb, r, e, h⟩ := h
  simp only [evE] at h
  exact ⟨φ, G, μ, σm, sb, r, e, h.bind.imp fun xs μ1 φ1 G1 H1 e1 r1 k vs hvs => ⟨φ1, G1, μ1, xs, e1.sub, r1, hvs, k.noX fun x' μ' => bi_noX x' μ'⟩⟩
theorem se_bi {b : BI} {p : Pos} {e : PySem.Expr} {es : List PySem.Expr} {As : List E} (hc : X.calm = true) (hK : g.K = X.K) (hg : Gl X (biName b)) (hm : X.mg (biName b) = none) (hp : (e :: es).all plain = true) (ha : PA X (e :: es) (tEs g T W md As)) :
    PE X (.Call (.Name (biName b) p) (e :: es) [] pos) (tE g T W md (.bi b As)) := by
  rw [List.all_cons, Bool.and_eq_true] at hp
  have hn : biName b ≠ "__name__" := by cases b <;> decide
  have hd : (biName b == ("__debug__" : Str)) = false := by cases b <;> decide
  refine ⟨fun pins s σ H Q I h => ?_⟩
  have ty : (∃ id, biVal b = .builtin id) ∨ ∃ n, biVal b = .type n := by cases b <;> simp [biVal]
  have boot := bi_boot b
  have cr : CallR X (biVal b) (rBi g b) := call_bi hc hK
  rcases ty with ⟨id, hid⟩ | ⟨n, hid⟩
  · rw [hid] at boot cr
    exact (pe_callB cr hg hm boot ha hn hd (star_cons hp.1) (star_any hp.2)).run pins s σ H Q I (bi_read h)
  · rw [hid] at boot cr
    exact (pe_callTy cr hg hm boot ha hn hd (star_cons hp.1) (star_any hp.2)).run pins s σ H Q I (bi_read h)
/-! ### methods of built-in types -/
def notCall0 : PySem.Expr → Bool
  | .Call (.Name _ _) [] [] _ => false
  | _ => true
theorem attr_base {o : PySem.Expr} {n : Str} {env : PySem.Env} (h : notCall0 o = true) : attributeBase o n env (eval o env) = eval o env := by
  unfold notCall0 at h
  split at h
  · cases h
  · rename_i hne
    unfold attributeBase
    split
    · exact (hne _ _ _ rfl).elim
    · rfl
def rMt (g : Glob) (m : Mt) : V → List V → Hp → VK → Prop := fun v vs H Q => ∃ φ G μ x xs, Sub G H ∧ Rel g φ G μ ∧ RV g φ G x v ∧ RVs g φ G xs vs ∧ Good g (fun _ _ _ _ => False) [] φ G H (mthM μ m x xs) (kE g Q)
theorem mt_ok {m : Mt} (hK : g.K = X.K) : MtR X (mtId m) (rMt g m) := by
  intro pins s σ H v vs a us Q I ra rv h
  obtain ⟨φ, G, μ, x, xs, sb, r, rx, rs, h⟩ := h
  exact mth_ok (W := fun _ _ _ _ => False) hK I r sb (h.noX fun x' μ' => mth_noX x' μ') rx rs ra rv
theorem few_of {e : PySem.Expr} {es : List PySem.Expr} {env : PySem.Env} (hp : (e :: es).all plain = true) (hl : (e :: es).length < 30) :
    ((backTo pos (starEach (e :: es) env)).all (fun x => !x.1) && (backToKw pos (keywordEach [] env)).all (fun x => x.1.isSome) && decide ((e :: es).length + ([] : List Keyword).length + (if ([] : List Keyword).isEmpty then 0 else 1) < 30)) = true := by
  have h1 := star_any (env := env) (pos := pos) hp
  have h2 : (backTo pos (starEach (e :: es) env)).all (fun x => !x.1) = true := by
    rw [List.all_eq_true]
    intro y hy
    have := List.any_eq_false.mp h1 y hy
    simpa using this
  rw [h2]
  show (true && true && decide ((e :: es).length + 0 + 0 < 30)) = true
  simp only [Bool.and_self, Bool.true_and, decide_eq_true_eq]
  omega
theorem se_mth {m : Mt} {apos : Pos} {o e : PySem.Expr} {es : List PySem.Expr} {O : E} {As : List E} (hK : g.K = X.K) (ho : PE X o (tE g T W md O)) (hb : notCall0 o = true) (hline : (apos.endLine == pos.line) = true) (hp : (e :: es).all plain = true) (hl : (e :: es).length < 30) (ha : PA X (e :: es) (tEs g T W md As)) :
    PE X (.Call (.Attribute o (mtName m) apos) (e :: es) [] pos) (tE g T W md (.mth m O As)) := by
  have hp' := hp
  rw [List.all_cons, Bool.and_eq_true] at hp'
  refine ⟨fun pins s σ H Q I h => (pe_bm (mt_pa m) (mt_slot m) (mt_type m) (mt_ok hK) ho ha (attr_base hb) (few_of hp hl) hline (star_cons hp'.1) (star_any hp'.2)).run pins s σ H Q I ?_⟩
  obtain ⟨φ, G, μ, σm, sb, r, e, h⟩ := h
  simp only [evE] at h
  refine ⟨φ, G, μ, σm, sb, r, e, h.bind.imp fun v μ1 φ1 G1 H1 e1 r1 k w hw => ?_⟩
  split at k
  · rename_i hty
    have ht := mth_ty hty r1 e1.sub hw
    rw [hK] at ht
    exact ⟨ht, φ1, G1, μ1, σm, e1.sub, r1, e.ext e1, k.bind.imp fun xs μ2 φ2 G2 H2 e2 r2 k vs hvs => ⟨φ2, G2, μ2, v, xs, e2.sub, r2, hw.ext e2, hvs, k.noX fun x' μ' => mth_noX x' μ'⟩⟩
  · exact k.elim
/-! ### isinstance -/
/-- a class as it is written -/
def tyName : TyR → Option Str
  | .int => some "int" | .bool => some "bool" | .str => some "str" | .list => some "list" | .tuple => some "tuple" | .dict => some "dict" | .cls _ => none
/-- an expression that is the class t -/
def PCl (X : Cx) (g : Glob) (e : PySem.Expr) (t : TyR) : Prop := ∃ v u, PE X e (tC v) ∧ ClsV v u ∧ tyCl g t = some u
theorem pcl_ty {t : TyR} {x : Str} {p : Pos} (h : tyName t = some x) (hg : Gl X x) (hm : X.mg x = none) : PCl X g (.Name x p) t := by
  cases t <;> simp only [tyName, Option.some.injEq] at h <;> (try cases h)
  · exact ⟨.ty "int", _, pe_bltn hg hm (u := .type "int") (by decide +kernel) rfl (by decide) (by decide), .ty _, rfl⟩
  · exact ⟨.ty "bool", _, pe_bltn hg hm (u := .type "bool") (by decide +kernel) rfl (by decide) (by decide), .ty _, rfl⟩
  · exact ⟨.ty "str", _, pe_bltn hg hm (u := .type "str") (by decide +kernel) rfl (by decide) (by decide), .ty _, rfl⟩
  · exact ⟨.ty "list", _, pe_bltn hg hm (u := .type "list") (by decide +kernel) rfl (by decide) (by decide), .ty _, rfl⟩
  · exact ⟨.ty "tuple", _, pe_bltn hg hm (u := .type "tuple") (by decide +kernel) rfl (by decide) (by decide), .ty _, rfl⟩
  · exact ⟨.ty "dict", _, pe_bltn hg hm (u := .type "dict") (by decide +kernel) rfl (by decide) (by decide), .ty _, rfl⟩
theorem pcl_cls {j : Nat} {C : Addr} {x : Str} {p : Pos} (h : g.cA j = some C) (hg : Gl X x) (hm : X.mg x = some (.ref C)) (hdb : (x == ("__debug__" : Str)) = false) : PCl X g (.Name x p) (.cls j) :=
  ⟨.ref C, .ref C, pe_glob hg hm rfl hdb, .own C, by simp only [tyCl, h, Option.map_some]⟩
theorem tys1 {P : Prog} {μ : Mem} {x : MV} {t : TyR} {b : Bool} (h : tysM P μ x [t] = some b) : tyM P μ x t = some b := by
  simp only [tysM] at h
  split at h
  · rename_i e
    rw [e, ← h]
  · rename_i e
    rw [e, ← h]
  · cases h
theorem isin_read {t : TyR} {v : V} {u : Value} (hP : KitG g) (hT : T.P = g.P) (hK : g.K = X.K) (hv : ClsV v u) (hu : tyCl g t = some u) {σ : L2.St} {H : Hp} {Q : VK} (h : tE g T W md (.isin A [t]) σ H Q) : tCB (rIsi X.K) (tCons (tE g T W md A) (tCons (tC v) tNil)) σ H Q := by
  obtain ⟨φ, G, μ, σm, sb, r, e, h⟩ := h
  simp only [evE] at h
  refine ⟨φ, G, μ, σm, sb, r, e, h.bind.imp fun x μ1 φ1 G1 H1 e1 r1 k w hw => ?_⟩
  obtain ⟨b, hb, q⟩ := Good.opt k.bind e1.sub r1
  have hb1 := tys1 hb
  rw [hT] at hb1
  obtain ⟨tv, h1, h2⟩ := tyM_ok hP hb1 r1 e1.sub hw hu
  refine ⟨w, v, tv, u, b, rfl, hv, ?_, by rw [← hK]; exact h2, q.here e1.sub r1 _ (by simp only [RV])⟩
  rw [← hK]
  exact tyOf_ok hP h1 r1 e1.sub hw
theorem se_isin {t : TyR} {p : Pos} {e : PySem.Expr} (hP : KitG g) (hT : T.P = g.P) (hK : g.K = X.K) (hg : Gl X "isinstance") (hm : X.mg "isinstance" = none) (hp : plain a = true) (hp' : plain e = true) (ha : PE X a (tE g T W md A)) (he : PCl X g e t) :
    PE X (.Call (.Name "isinstance" p) [a, e] [] pos) (tE g T W md (.isin A [t])) := by
  obtain ⟨v, u, he, hv, hu⟩ := he
  refine ⟨fun pins s σ H Q I h => (pe_callB (x := "isinstance") (id := "isinstance") call_isi hg hm (by decide +kernel) (pa_cons ha (pa_cons he pa_nil (star_cons hp')) (star_cons hp)) (by decide) (by decide) (star_cons hp) (star_any (by simp [hp']))).run pins s σ H Q I ?_⟩
  exact isin_read hP hT hK hv hu h
def tCs (vs : List V) : TA := fun _ H Q => Q vs H
/-- a row of classes -/
def PCls (X : Cx) (g : Glob) (es : List PySem.Expr) (ts : List TyR) : Prop := ∃ vs us, PA X es (tCs vs) ∧ Paired ClsV vs us ∧ Paired (fun t u => tyCl g t = some u) ts us ∧ vs.length = es.length
theorem pcls_nil : PCls X g [] [] := ⟨[], [], ⟨fun pos pins s σ H Q I h => pa_nil.run pos pins s σ H Q I h⟩, .nil, .nil, rfl⟩
theorem pcls_cons {e : PySem.Expr} {es : List PySem.Expr} {t : TyR} {ts : List TyR} (hp : plain e = true) (he : PCl X g e t) (hr : PCls X g es ts) : PCls X g (e :: es) (t :: ts) := by
  obtain ⟨v, u, he, hv, hu⟩ := he
  obtain ⟨vs, us, ha, hvs, hus, hn⟩ := hr
  exact ⟨v :: vs, u :: us, ⟨fun pos pins s σ H Q I h => (pa_cons he ha (star_cons hp)).run pos pins s σ H Q I h⟩, .cons hv hvs, .cons hu hus, by simp [hn]⟩
theorem se_isinT {ts : List TyR} {p p' : Pos} {j : Nat} {es : List PySem.Expr} (hP : KitG g) (hT : T.P = g.P) (hK : g.K = X.K) (hg : Gl X "isinstance") (hm : X.mg "isinstance" = none) (hp : plain a = true) (hl : es.length ≤ 50) (hne : ts ≠ []) (ha : PE X a (tE g T W md A)) (he : PCls X g es ts) :
    PE X (.Call (.Name "isinstance" p) [a, .Tuple es j p'] [] pos) (tE g T W md (.isin A ts)) := by
  obtain ⟨vs, us, he, hv, hu, hn⟩ := he
  refine ⟨fun pins s σ H Q I h => (pe_callB (x := "isinstance") (id := "isinstance") call_isiT hg hm (by decide +kernel) (pa_cons ha (pa_cons (pe_tup he) pa_nil (star_cons rfl)) (star_cons hp)) (by decide) (by decide) (star_cons hp) (star_any rfl)).run pins s σ H Q I ?_⟩
  obtain ⟨φ, G, μ, σm, sb, r, e, h⟩ := h
  simp only [evE] at h
  refine ⟨φ, G, μ, σm, sb, r, e, h.bind.imp fun x μ1 φ1 G1 H1 e1 r1 k w hw => ⟨Nat.le_trans (by rw [hn]; exact hl) (by decide : 50 ≤ sizeLine), fun q hq => ?_⟩⟩
  obtain ⟨b, hb, kq⟩ := Good.opt k.bind e1.sub r1
  rw [hT] at hb
  have hG := e1.sub.none hq
  have e2 : Ext none φ1 G1 H1 φ1 (upd G1 q (.tup vs)) (upd H1 q (.tup vs)) := by
    have := Ext.new (ex := none) (φ := φ1) e1.sub (o := .tup vs) hq []
    rwa [List.append_nil] at this
  have r2 := r1.grow (sub_new (o := .tup vs) hG)
  have hw2 := hw.ext e2
  have ty : ∃ tv, tyOfM g μ1 x = some tv ∧ PySem.W.kitAny g.K tv us = some b := by
    cases ts with
    | nil => exact absurd rfl hne
    | cons t ts =>
      cases hu with
      | cons h1 h2 =>
        rename_i u us'
        have : ∃ k, tyM g.P μ1 x t = some k := by
          simp only [tysM] at hb
          split at hb
          · exact ⟨_, by assumption⟩
          · exact ⟨_, by assumption⟩
          · cases hb
        obtain ⟨k', hk'⟩ := this
        obtain ⟨tv, h3, h4⟩ := tyM_ok hP hk' r2 e2.sub hw2 h1
        exact ⟨tv, h3, tysM_ok hP r2 e2.sub hw2 h3 (t :: ts) (u :: us') b hb (.cons h1 h2)⟩
  obtain ⟨tv, h1, h2⟩ := ty
  refine ⟨w, q, vs, tv, us, b, rfl, upd_same, hv, ?_, by rw [← hK]; exact h2, (Good.ext kq e2).here e2.sub r2 _ (by simp only [RV])⟩
  rw [← hK]
  exact tyOf_ok hP h1 r2 e2.sub hw2
/-! ### fields -/
theorem idx_lookup {fs : List (Str × V)} {f : Str} {j : Nat} {v : V} (h1 : (fs.map (·.1)).idxOf? f = some j) (h2 : (fs.map (·.2))[j]? = some v) : fs.lookup f = some v := by
  induction fs generalizing j with
  | nil => cases h1
  | cons p fs ih =>
    obtain ⟨n, u⟩ := p
    rw [List.map_cons, List.idxOf?_cons] at h1
    rw [List.lookup_cons]
    by_cases hb : n == f
    · have e := eq_of_beq hb
      subst e
      rw [if_pos (by simp)] at h1
      cases h1
      simp only [beq_self_eq_true]
      simpa using h2
    · have hb2 : (f == n) = false := by
        rw [beq_eq_false_iff_ne]
        intro z
        subst z
        simp at hb
      rw [if_neg (by simpa using hb)] at h1
      rw [hb2]
      obtain ⟨i, h3, rfl⟩ := Option.map_eq_some_iff.mp h1
      exact ih h3 (by simpa using h2)
theorem se_fld {f : Str} {o : PySem.Expr} {O : E} (hC : ∀ c C Cl, g.cA c = some C → g.P.clss[c]? = some Cl → Cl.init.isSome = true → L2.Cls g.K C ∧ ∀ f ∈ Cl.fields, NoAttr g.K C f) (hT : T.P = g.P) (hK : g.K = X.K) (ho : PE X o (tE g T W md O)) (hb : notCall0 o = true) : PE X (.Attribute o f pos) (tE g T W md (.fld O f)) := by
  refine ⟨fun pins s σ H Q I h => (pe_fld ho (attr_base hb)).run pins s σ H Q I ?_⟩
  obtain ⟨φ, G, μ, σm, sb, r, e, h⟩ := h
  simp only [evE] at h
  refine ⟨φ, G, μ, σm, sb, r, e, h.bind.imp fun x μ1 φ1 G1 H1 e1 r1 k w hw => ?_⟩
  split at k
  · rename_i c vs
    obtain ⟨z, hz, q⟩ := Good.opt k e1.sub r1
    simp only [RV] at hw
    obtain ⟨a, C, dx, fs, Cl, rfl, hc, hg, hl, hn, hr⟩ := hw
    rw [hT, hl] at hz
    simp only [Option.bind_some] at hz
    split at hz
    · rename_i hi
      obtain ⟨j, h1, h2⟩ := Option.bind_eq_some_iff.mp hz
      obtain ⟨u, h3, h4⟩ := hr.get h2
      rw [← hn] at h1
      have hf : f ∈ Cl.fields := by
        rw [← hn]
        exact List.isSome_idxOf?.mp (by rw [h1]; rfl)
      obtain ⟨c1, c2⟩ := hC c C Cl hc hl hi
      rw [hK] at c1 c2
      exact ⟨a, C, dx, fs, u, rfl, e1.sub _ _ hg, c1, c2 f hf, idx_lookup h1 h3, q u h4⟩
    · cases hz
  · exact k.elim
end
end Mch

/-! ## Targets, walks, comprehensions -/
namespace Mch
open PySem PySem.Spec PyProof.Rows L2
/-! ### storing into names -/
mutual
def tgSlots : E → List Nat
  | .var i => [i]
  | .tup ts => tgSlotss ts
  | _ => []
def tgSlotss : List E → List Nat
  | [] => []
  | t :: ts => tgSlots t ++ tgSlotss ts
end
/-- the slots is alone are stored -/
def Sto (is : List Nat) (σ σ' : L2.St) : Prop := σ'.length = σ.length ∧ ∀ i, i ∉ is → σ'[i]? = σ[i]?
theorem Sto.refl (σ : L2.St) : Sto [] σ σ := ⟨rfl, fun _ _ => rfl⟩
theorem Sto.trans {is js : List Nat} {σ σ1 σ2 : L2.St} (a : Sto is σ σ1) (b : Sto js σ1 σ2) : Sto (is ++ js) σ σ2 :=
  ⟨b.1.trans a.1, fun i h => by
    rw [List.mem_append, not_or] at h
    exact (b.2 i h.2).trans (a.2 i h.1)⟩
theorem Sto.one (σ : L2.St) (i : Nat) (v : V) : Sto [i] σ (σ.set i (some v)) :=
  ⟨by simp, fun j h => by
    rw [List.getElem?_set_ne]
    intro e
    exact h (by simp [e])⟩
theorem wipe_get : ∀ (vs : List Nat) (σ : L2.St) (j : Nat), (wipe σ vs)[j]? = if j ∈ vs ∧ j < σ.length then some none else σ[j]?
  | [], σ, j => by simp [wipe]
  | v :: vs, σ, j => by
    show ((wipe σ vs).set v none)[j]? = _
    rw [List.getElem?_set, wipe_length, wipe_get vs σ j]
    by_cases e : v = j
    · subst e
      by_cases hl : v < σ.length
      · simp [hl]
      · simp only [if_true, hl, if_false]
        rw [if_neg (by simp [hl])]
        exact (List.getElem?_eq_none (by omega)).symm
    · rw [if_neg e]
      have : (j ∈ v :: vs) ↔ j ∈ vs := by
        rw [List.mem_cons]
        constructor
        · rintro (h | h)
          · exact absurd h.symm e
          · exact h
        · exact .inr
      simp only [this]
theorem Sto.wipe {is vs : List Nat} {σ σ' : L2.St} (h : Sto is σ σ') (hs : ∀ i ∈ is, i ∈ vs) : L2.wipe σ' vs = L2.wipe σ vs := by
  apply List.ext_getElem?
  intro j
  rw [wipe_get, wipe_get, h.1]
  by_cases hj : j ∈ vs ∧ j < σ.length
  · rw [if_pos hj, if_pos hj]
  · rw [if_neg hj, if_neg hj]
    by_cases hl : j < σ.length
    · exact h.2 j fun z => hj ⟨hs j z, hl⟩
    · rw [List.getElem?_eq_none (show σ'.length ≤ j by rw [h.1]; omega), List.getElem?_eq_none (show σ.length ≤ j by omega)]
theorem wipe_wipe (vs : List Nat) (σ : L2.St) : L2.wipe (L2.wipe σ vs) vs = L2.wipe σ vs := by
  apply List.ext_getElem?
  intro j
  rw [wipe_get, wipe_get, wipe_length]
  split <;> rfl
theorem wipeM_length : ∀ (vs : List Nat) (σ : Env), (wipeM σ vs).length = σ.length
  | [], σ => rfl
  | v :: vs, σ => by
    show ((wipeM σ vs).set v none).length = _
    rw [List.length_set, wipeM_length]
theorem wipeM_some : ∀ {vs : List Nat} {σ : Env} {j : Nat} {v : MV}, (wipeM σ vs)[j]? = some (some v) → σ[j]? = some (some v) ∧ j ∉ vs
  | [], σ, j, v, h => ⟨h, by simp⟩
  | u :: vs, σ, j, v, h => by
    have h : ((wipeM σ vs).set u none)[j]? = some (some v) := h
    rw [List.getElem?_set] at h
    split at h
    · split at h
      · cases h
      · cases h
    · rename_i hne
      obtain ⟨h1, h2⟩ := wipeM_some h
      exact ⟨h1, by
        rw [List.mem_cons, not_or]
        exact ⟨fun e => hne e.symm, h2⟩⟩
theorem REnv.wipe {g : Glob} {φ : List Addr} {G : Hp} {md : Md} {σm : Env} {σ : L2.St} (h : REnv g φ G md σm σ) (vs : List Nat) : REnv g φ G md (wipeM σm vs) (L2.wipe σ vs) := by
  refine ⟨by rw [wipeM_length, wipe_length, h.1], fun i v e1 e2 => ?_⟩
  obtain ⟨e3, e4⟩ := wipeM_some e1
  obtain ⟨w, hw, r⟩ := h.2 i v e3 e2
  exact ⟨w, by rw [wipe_get, if_neg (fun z => e4 z.1)]; exact hw, r⟩
/-- a target of names -/
def gB (g : Glob) (md : Md) (tg : E) : TG := fun v σ H Q => ∃ φ G x σm σm', Sub G H ∧ RV g φ G x v ∧ REnv g φ G md σm σ ∧ bindT tg x σm = some σm' ∧ ∀ σ', REnv g φ G md σm' σ' → Sto (tgSlots tg) σ σ' → Q σ' H
def gBs (g : Glob) (md : Md) (tgs : List E) : TGs := fun vs σ H Q => ∃ φ G xs σm σm', Sub G H ∧ RVs g φ G xs vs ∧ REnv g φ G md σm σ ∧ bindT.go tgs xs σm = some σm' ∧ ∀ σ', REnv g φ G md σm' σ' → Sto (tgSlotss tgs) σ σ' → Q σ' H
theorem assign_cons {t : PySem.Expr} {ts : List PySem.Expr} {env : PySem.Env} (h : plain t = true) : assignEach (t :: ts) env = (false, assign t env) :: assignEach ts env := by
  cases t <;> first | rfl | cases h
theorem assign_len {env : PySem.Env} : ∀ {ts : List PySem.Expr}, ts.all plain = true → (assignEach ts env).length = ts.length ∧ (assignEach ts env).findIdx? (·.1) = none
  | [], _ => ⟨rfl, rfl⟩
  | t :: ts, h => by
    rw [List.all_cons, Bool.and_eq_true] at h
    obtain ⟨h1, h2⟩ := assign_len (env := env) h.2
    rw [assign_cons h.1]
    exact ⟨by simp [h1], by rw [List.findIdx?_cons, h2]; rfl⟩
section
variable {X : Cx} {g : Glob} {T : Tab} {W : WX} {md : Md} {pos : Pos}
theorem sg_var {i : Nat} {x : Str} (hN : X.N.Nodup) (hi : X.N[i]? = some x) (hx : Loc X.env.scope x) (hf : X.fn x = true ∨ X.env.scope.names.lookup x = some .local) : PG X (.Name x pos) (gB g md (.var i)) := by
  refine ⟨fun pins s σ H v u Q I r h => (pg_name hN hi hx hf).run pins s σ H v u Q I r ?_⟩
  obtain ⟨φ, G, x, σm, σm', sb, rv, e, hb, k⟩ := h
  simp only [bindT, Option.some.injEq] at hb
  subst hb
  exact k _ (e.set rv) (Sto.one _ _ _)
theorem sgs_nil : PGs X [] (gBs g md []) := by
  refine ⟨fun pins s σ H vs us Q I r h => pgs_nil.run pins s σ H vs us Q I r ?_⟩
  obtain ⟨φ, G, xs, σm, σm', sb, rv, e, hb, k⟩ := h
  cases xs with
  | nil =>
    simp only [RVs] at rv
    simp only [bindT.go, Option.some.injEq] at hb
    subst hb
    exact ⟨rv, k _ e (Sto.refl _)⟩
  | cons x xs => simp only [bindT.go] at hb; cases hb
theorem sgs_cons {t : PySem.Expr} {ts : List PySem.Expr} {A : E} {As : List E} (hp : plain t = true) (h1 : PG X t (gB g md A)) (h2 : PGs X ts (gBs g md As)) : PGs X (t :: ts) (gBs g md (A :: As)) := by
  refine ⟨fun pins s σ H vs us Q I r h => (pgs_cons h1 h2 (by rw [assign_cons hp]; rfl)).run pins s σ H vs us Q I r ?_⟩
  obtain ⟨φ, G, xs, σm, σm', sb, rv, e, hb, k⟩ := h
  cases xs with
  | nil => simp only [bindT.go] at hb; cases hb
  | cons x xs =>
    simp only [RVs] at rv
    obtain ⟨v, vr, rfl, hv, hr⟩ := rv
    simp only [bindT.go] at hb
    obtain ⟨σ1, hb1, hb2⟩ := Option.bind_eq_some_iff.mp hb
    exact ⟨v, vr, rfl, φ, G, x, σm, σ1, sb, hv, e, hb1, fun σ' e' st => ⟨φ, G, xs, σ1, σm', sb, hr, e', hb2, fun σ2 e2 st2 => k σ2 e2 (by
      simp only [tgSlotss]
      exact st.trans st2)⟩⟩
theorem sg_tup {ts : List PySem.Expr} {As : List E} {j : Nat} (hc : X.calm = true) (hK : g.K = X.K) (hp : ts.all plain = true) (hl : ts.length = As.length) (h : PGs X ts (gBs g md As)) : PG X (.Tuple ts j pos) (gB g md (.tup As)) := by
  obtain ⟨a1, a2⟩ := assign_len (env := X.env) hp
  refine ⟨fun pins s σ H v u Q I r hh => (pg_tup hc h rfl a2).run pins s σ H v u Q I r ?_⟩
  obtain ⟨φ, G, x, σm, σm', sb, rv, e, hb, k⟩ := hh
  simp only [bindT] at hb
  split at hb
  · rename_i xs
    split at hb
    · rename_i hlen
      simp only [RV] at rv
      obtain ⟨a, vs, rfl, hq, hr⟩ := rv
      rw [hK] at hq
      exact ⟨a, vs, rfl, sqT_sub sb hq, by rw [a1, hl, ← hr.len, hlen], φ, G, xs, σm, σm', sb, hr, e, hb, fun σ' e' st => k σ' e' (by simp only [tgSlots]; exact st)⟩
    · cases hb
  · cases hb
/-! ### walks -/
def ItR (g : Glob) (φ : List Addr) (G : Hp) : MV → It → Prop
  | .tup xs, J => ∃ a vs, J = Itt g.K a ∧ SqT g.K G a vs ∧ RVs g φ G xs vs
  | .ref i, J => ∃ a, J = Itl g.K a ∧ φ[i]? = some a
  | .rng lo n st, J => st = 1 ∧ J = Itr lo n
  | _, _ => False
theorem ItR.ext {φ φ1 : List Addr} {G G1 H H1 : Hp} {ex : Option Addr} {J : MV} {J' : It} (h : ItR g φ G J J') (e : Ext ex φ G H φ1 G1 H1) : ItR g φ1 G1 J J' := by
  cases J with
  | tup xs =>
    obtain ⟨a, vs, h1, h2, h3⟩ := h
    exact ⟨a, vs, h1, sqT_keep e.keep h2, h3.ext e⟩
  | ref i =>
    obtain ⟨a, h1, h2⟩ := h
    exact ⟨a, h1, pre_get e.pre h2⟩
  | rng lo n st => exact h
  | _ => exact h.elim
theorem it_stop {φ : List Addr} {G H : Hp} {μ : Mem} {J : MV} {J' : It} {i : Nat} (r : Rel g φ G μ) (sb : Sub G H) (h : ItR g φ G J J') (hn : nth μ J i = some none) : J'.stop i H := by
  cases J with
  | tup xs =>
    obtain ⟨a, vs, rfl, h2, h3⟩ := h
    simp only [nth, Option.some.injEq] at hn
    exact ⟨vs, sqT_sub sb h2, h3.none hn⟩
  | ref j =>
    obtain ⟨a, rfl, h2⟩ := h
    simp only [nth] at hn
    cases e : lstAt μ j with
    | none => rw [e] at hn; cases hn
    | some xs =>
      rw [e] at hn
      simp only [Option.map_some, Option.some.injEq] at hn
      obtain ⟨vs, h3, h4⟩ := r.lstAt e h2
      exact ⟨vs, sqL_sub sb h3, h4.none hn⟩
  | rng lo n st =>
    obtain ⟨rfl, rfl⟩ := h
    simp only [nth, Option.some.injEq] at hn
    split at hn
    · cases hn
    · show n ≤ i
      omega
  | _ => exact h.elim
theorem it_go {φ : List Addr} {G H : Hp} {μ : Mem} {J : MV} {J' : It} {i : Nat} {x : MV} (r : Rel g φ G μ) (sb : Sub G H) (h : ItR g φ G J J') (hn : nth μ J i = some (some x)) :
    J'.go i H ∧ ∀ v H', J'.yld i H v H' → ∃ G', Ext none φ G H φ G' H' ∧ Rel g φ G' μ ∧ RV g φ G' x v := by
  cases J with
  | tup xs =>
    obtain ⟨a, vs, rfl, h2, h3⟩ := h
    simp only [nth, Option.some.injEq] at hn
    obtain ⟨v, h4, h5⟩ := h3.get hn
    refine ⟨⟨vs, v, sqT_sub sb h2, h4⟩, fun u H' hy => ?_⟩
    obtain ⟨rfl, hy⟩ := hy
    have := hy vs (sqT_sub sb h2)
    rw [h4] at this
    cases this
    exact ⟨G, Ext.refl sb, r, h5⟩
  | ref j =>
    obtain ⟨a, rfl, h2⟩ := h
    simp only [nth] at hn
    cases e : lstAt μ j with
    | none => rw [e] at hn; cases hn
    | some xs =>
      rw [e] at hn
      simp only [Option.map_some, Option.some.injEq] at hn
      obtain ⟨vs, h3, h4⟩ := r.lstAt e h2
      obtain ⟨v, h5, h6⟩ := h4.get hn
      refine ⟨⟨vs, v, sqL_sub sb h3, h5⟩, fun u H' hy => ?_⟩
      obtain ⟨rfl, hy⟩ := hy
      have := hy vs (sqL_sub sb h3)
      rw [h5] at this
      cases this
      exact ⟨G, Ext.refl sb, r, h6⟩
  | rng lo n st =>
    obtain ⟨rfl, rfl⟩ := h
    simp only [nth, Option.some.injEq] at hn
    split at hn
    · rename_i hi
      cases hn
      refine ⟨hi, fun u H' hy => ?_⟩
      obtain ⟨rfl, rfl⟩ := hy
      refine ⟨G, Ext.refl sb, r, ?_⟩
      simp only [RV, Int.mul_one]
    · cases hn
  | _ => exact h.elim
/-- an expression that is walked -/
def tI (g : Glob) (T : Tab) (W : WX) (md : Md) (A : E) : TI := fun σ H R => ∃ φ G μ σm, Sub G H ∧ Rel g φ G μ ∧ RSt g φ G H md σm σ ∧ Good g W σ φ G H ((evE T A σm μ).bind fun J μ => itM μ J) fun J _ φ1 G1 H1 => ∀ J', ItR g φ1 G1 J J' → R J' H1
theorem si_val {tg e : PySem.Expr} {A : E} (hK : g.K = X.K) (he : PE X e (tE g T W md A)) : PI X tg e (tI g T W md A) := by
  refine ⟨fun pins s σ H R I h => ?_⟩
  obtain ⟨φ, G, μ, σm, sb, r, en, h⟩ := h
  refine thn (he.run pins s σ H (fun x H1 => ∃ φ G μ v, Sub G H1 ∧ Rel g φ G μ ∧ RV g φ G v x ∧ Good g W σ φ G H1 (itM μ v) fun J _ φ1 G1 H1 => ∀ J', ItR g φ1 G1 J J' → R J' H1) I ⟨φ, G, μ, σm, sb, r, en, h.bind.imp fun v μ1 φ1 G1 H1 e1 r1 k w hw => ⟨φ1, G1, μ1, v, e1.sub, r1, hw, k⟩⟩) fun v s1 ⟨x, H1, I1, r1, q1⟩ => ?_
  obtain ⟨φ1, G1, μ1, x', sb1, rl1, rx, q1⟩ := q1
  unfold itM at q1
  split at q1
  · have q2 := q1.here sb1 rl1
    simp only [RV] at rx
    obtain ⟨a, vs, rfl, hq, hr⟩ := rx
    cases r1
    have hq' : SqT X.K H1 a vs := by
      rw [← hK]
      exact sqT_sub sb1 hq
    obtain ⟨its, rv, p, hz⟩ := I1.tuple hq'
    refine wpAny_pyIter_tuple (show s1.heap.IsTuple a its.toArray from p) ?_
    refine pi_one (J := Itt X.K a) (tk := s1.toks) I1 _ (turn_tuple a _) ⟨_, Heap.get?_push_size _ rfl, rfl, rfl⟩ (q2 _ ⟨a, vs, by rw [hK], hq, hr⟩)
  · split at q1
    · rename_i i xs e
      have q2 := q1.here sb1 rl1
      obtain ⟨a, vs, rfl, ha, hq, hr⟩ := rl1.ref e rx
      cases r1
      have hq' : SqL X.K H1 a vs := by
        rw [← hK]
        exact sqL_sub sb1 hq
      obtain ⟨its, rv, p, hz⟩ := I1.list hq'
      refine wpAny_pyIter_list p.isList ?_
      refine pi_one (J := Itl X.K a) (tk := s1.toks) I1 _ (turn_list a _) ⟨_, Heap.get?_push_size _ rfl, rfl, rfl⟩ (q2 _ ⟨a, by rw [hK], ha⟩)
    · exact q1.elim
  · simp only [RV] at rx
  · simp only [RV] at rx
  · simp only [RV] at rx
  · exact q1.elim
theorem si_rng1 {tg e : PySem.Expr} {p : Pos} {A : E} (hg : Gl X "range") (hm : X.mg "range" = none) (hp : plain e = true) (ha : PA X [e] (tEs g T W md [A])) : PI X tg (.Call (.Name "range" p) [e] [] pos) (tI g T W md (.rng [A])) := by
  refine ⟨fun pins s σ H R I h => (pi_range1 hg hm ha (star_cons hp)).run pins s σ H R I ?_⟩
  obtain ⟨φ, G, μ, σm, sb, r, en, h⟩ := h
  simp only [evE] at h
  refine ⟨φ, G, μ, σm, sb, r, en, h.bind.bind.imp2 fun xs μ1 φ1 G1 H1 e0 e1 r1 k vs hvs => ?_⟩
  have hl := evEs_len e0
  obtain ⟨x, rfl⟩ : ∃ x, xs = [x] := by
    cases xs with
    | nil => cases hl
    | cons x xs =>
      cases xs with
      | nil => exact ⟨x, rfl⟩
      | cons y ys => simp at hl
  obtain ⟨v, rfl, hv⟩ := hvs.one
  unfold rngM at k
  split at k
  · rename_i a heq
    cases heq
    split at k
    · rename_i hb
      simp only [RV] at hv
      subst hv
      exact ⟨a, rfl, hb.1, hb.2, (k.here e1.sub r1).here e1.sub r1 _ ⟨rfl, rfl⟩⟩
    · exact k.elim
  · rename_i heq
    cases heq
  · exact k.elim
theorem si_rng2 {tg e e2 : PySem.Expr} {p : Pos} {A B : E} (hg : Gl X "range") (hm : X.mg "range" = none) (hp : plain e = true) (hp2 : plain e2 = true) (ha : PA X [e, e2] (tEs g T W md [A, B])) : PI X tg (.Call (.Name "range" p) [e, e2] [] pos) (tI g T W md (.rng [A, B])) := by
  refine ⟨fun pins s σ H R I h => (pi_range2 hg hm ha (by rw [star_cons hp, star_cons hp2]; rfl) (by rw [star_cons hp2]; rfl)).run pins s σ H R I ?_⟩
  obtain ⟨φ, G, μ, σm, sb, r, en, h⟩ := h
  simp only [evE] at h
  refine ⟨φ, G, μ, σm, sb, r, en, h.bind.bind.imp2 fun xs μ1 φ1 G1 H1 e0 e1 r1 k vs hvs => ?_⟩
  have hl := evEs_len e0
  obtain ⟨x, y, rfl⟩ : ∃ x y, xs = [x, y] := by
    cases xs with
    | nil => cases hl
    | cons x xs =>
      cases xs with
      | nil => cases hl
      | cons y ys =>
        cases ys with
        | nil => exact ⟨x, y, rfl⟩
        | cons z zs => simp at hl
  obtain ⟨v, w, rfl, hv, hw⟩ := hvs.two
  unfold rngM at k
  split at k
  · rename_i heq
    cases heq
  · rename_i a b heq
    cases heq
    split at k
    · rename_i hb
      simp only [RV] at hv hw
      subst hv hw
      exact ⟨a, b, rfl, hb, (k.here e1.sub r1).here e1.sub r1 _ ⟨rfl, rfl⟩⟩
    · exact k.elim
  · exact k.elim
/-! ### comprehensions -/
abbrev W0 : WX := fun _ _ _ _ => False
theorem compL_noX {J : MV} {body : List MV → MV → Mem → R (List MV)} (hb : ∀ acc x μ x' μ', body acc x μ ≠ .exc x' μ') : ∀ (n i : Nat) (acc : List MV) (μ : Mem) x' μ', compL J body n i acc μ ≠ .exc x' μ'
  | 0, _, _, _, _, _ => by simp [compL]
  | n + 1, i, acc, μ, x', μ' => by
    simp only [compL]
    split
    · rename_i x e
      cases e1 : body acc x μ with
      | ok a μ1 => exact compL_noX hb n (i + 1) a μ1 x' μ'
      | exc y μ1 => exact absurd e1 (hb _ _ _ _ _)
      | no => simp [R.bind]
    · simp
    · simp
theorem calm_ok {α : Type} {r : R α} {a : α} {μ : Mem} (h : R.calm r = .ok a μ) : r = .ok a μ := by
  cases r with
  | ok b ν => exact h
  | exc x ν => cases h
  | no => cases h
theorem bind_ok {α β : Type} {r : R α} {f : α → Mem → R β} {b : β} {μ : Mem} (h : r.bind f = .ok b μ) : ∃ a μ1, r = .ok a μ1 ∧ f a μ1 = .ok b μ := by
  cases r with
  | ok a ν => exact ⟨a, ν, rfl, h⟩
  | exc x ν => cases h
  | no => cases h
theorem opt_ok {α : Type} {o : Option α} {a : α} {μ ν : Mem} (h : R.opt o μ = .ok a ν) : o = some a ∧ ν = μ := by
  cases o with
  | none => cases h
  | some b =>
    simp only [R.opt, R.ok.injEq] at h
    exact ⟨by rw [h.1], h.2.symm⟩
theorem good_ok {α : Type} {W : WX} {σ : L2.St} {φ : List Addr} {G H : Hp} {r : R α} {a : α} {μ : Mem} {k : KM α} (h : r = .ok a μ) (q : ∀ φ1 G1 H1, Ext none φ G H φ1 G1 H1 → Rel g φ1 G1 μ → k a μ φ1 G1 H1) : Good g W σ φ G H r k := by
  rw [h]
  exact q
/-- what persists -/
structure Per (φ : List Addr) (G : Hp) (φ1 : List Addr) (G1 : Hp) : Prop where
  pre : φ <+: φ1
  keep : ∀ a o, G a = some o → Fix o → G1 a = some o
theorem Ext.per {ex : Option Addr} {φ φ1 : List Addr} {G G1 H H1 : Hp} (e : Ext ex φ G H φ1 G1 H1) : Per φ G φ1 G1 := ⟨e.pre, e.keep⟩
theorem Per.trans {φ φ1 φ2 : List Addr} {G G1 G2 : Hp} (a : Per φ G φ1 G1) (b : Per φ1 G1 φ2 G2) : Per φ G φ2 G2 := ⟨a.pre.trans b.pre, fun c o h i => b.keep c o (a.keep c o h i) i⟩
theorem Per.refl {φ : List Addr} {G : Hp} : Per φ G φ G := ⟨List.prefix_refl _, fun _ _ h _ => h⟩
theorem REnv.per {φ φ1 : List Addr} {G G1 : Hp} {σm : Env} {σ : L2.St} (h : REnv g φ G md σm σ) (e : Per φ G φ1 G1) : REnv g φ1 G1 md σm σ :=
  ⟨h.1, fun i v e1 e2 => let ⟨w, q, r⟩ := h.2 i v e1 e2; ⟨w, q, RV.mono e.pre e.keep _ _ r⟩⟩
/-- the new list D grows beside what the machine knows -/
def WL (g : Glob) (D : Addr) (φ0 : List Addr) (G0 : Hp) (φ1 : List Addr) (G1 H1 : Hp) (J : MV) (J' : It) (body : List MV → MV → Mem → R (List MV)) (accF : List MV) (μF : Mem) : Nat → Nat → Hp → Prop := fun i m H => ∃ φ2 G2 μ2 acc accV,
  Per φ0 G0 φ2 G2 ∧ Ext none φ1 G1 H1 φ2 G2 H ∧ Rel g φ2 G2 μ2 ∧ ItR g φ2 G2 J J' ∧ H D = some (.lst accV) ∧ G2 D = none ∧ RVs g φ2 G2 acc accV ∧ compL J body m i acc μ2 = .ok accF μF
/-- the same through a run's end -/
theorem side {φ1 φ2 φ3 : List Addr} {G1 G2 G3 H1 H2 H3 : Hp} {D : Addr} {accV : List V} (e12 : Ext none φ1 G1 H1 φ2 G2 H2) (e23 : Ext none φ2 G2 H2 φ3 G3 H3) (hD : H2 D = some (.lst accV)) (nD : G2 D = none) :
    Ext none φ1 G1 H1 φ3 G3 H3 ∧ H3 D = some (.lst accV) ∧ G3 D = none :=
  ⟨e12.trans e23, (e23.same hD nD).1, (e23.same hD nD).2⟩
/-- D with one item more -/
theorem side_put {φ1 φ2 : List Addr} {G1 G2 H1 H2 : Hp} {D : Addr} {ws : List V} (e : Ext none φ1 G1 H1 φ2 G2 H2) (h1 : H1 D = none) (nD : G2 D = none) :
    Ext none φ1 G1 H1 φ2 G2 (upd H2 D (.lst ws)) where
  pre := e.pre
  keep := e.keep
  sub := fun a o q => by
    rw [upd_ne (fun z => by
      subst z
      rw [nD] at q
      cases q)]
    exact e.sub a o q
  frame := fun a o q n => by
    rw [upd_ne (fun z => by
      subst z
      rw [h1] at q
      cases q)]
    exact e.frame a o q n
/-- at the end D is known -/
theorem side_end {φ1 φ2 : List Addr} {G1 G2 H1 H2 : Hp} {μ2 : Mem} {D : Addr} {acc : List MV} {accV : List V} (e : Ext none φ1 G1 H1 φ2 G2 H2) (r : Rel g φ2 G2 μ2) (h1 : H1 D = none) (hD : H2 D = some (.lst accV)) (nD : G2 D = none) (rv : RVs g φ2 G2 acc accV) :
    Ext none φ1 G1 H1 (φ2 ++ [D]) (upd G2 D (.lst accV)) H2 ∧ Rel g (φ2 ++ [D]) (upd G2 D (.lst accV)) (μ2 ++ [.lst acc]) := by
  refine ⟨⟨e.pre.trans (List.prefix_append _ _), fun a o q i => sub_new nD a o (e.keep a o q i), fun a o q => ?_, fun a o q n => ?_⟩, r.newL nD rv⟩
  · by_cases z : a = D
    · subst z
      rw [upd_same] at q
      rw [hD, q]
    · rw [upd_ne z] at q
      exact e.sub a o q
  · obtain ⟨n1, o1, q1, q2⟩ := e.frame a o q n
    have z : a ≠ D := ne_of_none q h1
    rw [upd_ne z]
    exact ⟨n1, o1, q1, q2⟩
/-- the body of a comprehension of one clause -/
def body1 (T : Tab) (A TG CD : E) (own : List Nat) (σm : Env) : List MV → MV → Mem → R (List MV) := fun acc x μ => (R.opt (bindT TG x (wipeM σm own)) μ).bind fun σ1 μ => R.calm ((evE T CD σ1 μ).bind fun k μ => (truR k μ).bind fun k μ =>
  if k then (evE T A σ1 μ).bind fun v μ => putL acc v μ else .ok acc μ)
theorem body1_noX {A TG CD : E} {own : List Nat} {σm : Env} (acc : List MV) (x : MV) (μ : Mem) (x' : MX) (μ' : Mem) : body1 T A TG CD own σm acc x μ ≠ .exc x' μ' := by
  unfold body1
  cases bindT TG x (wipeM σm own) with
  | none => simp [R.opt, R.bind]
  | some σ1 =>
    simp only [R.opt, R.bind]
    unfold R.calm
    split
    · simp
    · rename_i hne
      exact hne _ _
/-- what is wished of the item behind the tests -/
theorem item_ok {A : E} {σ : L2.St} {σ1 : Env} {D : Addr} {φ1 φ2 : List Addr} {G1 G2 H1 H2 : Hp} {μ2 μ4 : Mem} {acc acc' : List MV} {accV : List V} {Nx : Hp → Prop} {v : MV} {μ3 : Mem}
    (h1 : H1 D = none) (e12 : Ext none φ1 G1 H1 φ2 G2 H2) (r2 : Rel g φ2 G2 μ2) (en : RSt g φ2 G2 H2 md σ1 σ) (hD : H2 D = some (.lst accV)) (nD : G2 D = none) (rv : RVs g φ2 G2 acc accV) (he : evE T A σ1 μ2 = .ok v μ3) (hp : putL acc v μ3 = .ok acc' μ4)
    (k : ∀ φ3 G3 H3 accV', Ext none φ1 G1 H1 φ3 G3 H3 → Ext none φ2 G2 H2 φ3 G3 (upd H3 D (.lst accV)) → Rel g φ3 G3 μ4 → H3 D = some (.lst accV') → G3 D = none → RVs g φ3 G3 acc' accV' → Nx H3) :
    tE g T W0 md A σ H2 fun y H4 => ∃ acc, H4 D = some (.lst acc) ∧ acc.length < sizeLine ∧ Nx (upd H4 D (.lst (acc ++ [y]))) := by
  unfold putL at hp
  split at hp
  · rename_i hz
    simp only [R.ok.injEq] at hp
    obtain ⟨rfl, rfl⟩ := hp
    refine ⟨φ2, G2, μ2, σ1, e12.sub, r2, en, good_ok he fun φ3 G3 H3 e3 r3 w hw => ?_⟩
    obtain ⟨e13, hD3, nD3⟩ := side e12 e3 hD nD
    refine ⟨accV, hD3, by rw [← rv.len]; exact hz, k φ3 G3 _ (accV ++ [w]) (side_put e13 h1 nD3) ?_ r3 upd_same nD3 ((rv.ext e3).append (rvs_cons hw rvs_nil))⟩
    rw [upd_upd]
    have : upd H3 D (.lst accV) = H3 := by
      funext b
      by_cases hb : b = D
      · subst hb
        rw [upd_same, hD3]
      · rw [upd_ne hb]
    rw [this]
    exact e3
  · cases hp
theorem comp_read {IT A TG CD : E} {own : List Nat} {σ : L2.St} {H : Hp} {Q : VK} (hmd : ∀ j a c d, md ≠ .exc j a c d) (hsl : ∀ i ∈ tgSlots TG, i ∈ own) (h : tE g T W md (.comp A TG IT CD own) σ H Q) :
    tLc (tI g T W md IT) (gB g md.blk TG) (tT g T W0 md.blk CD) (tE g T W0 md.blk A) own σ H Q := by
  obtain ⟨φ, G, μ, σm, sb, r, en, h⟩ := h
  simp only [evE] at h
  have h : Good g W σ φ G H ((evE T IT σm μ).bind fun J μ => (itM μ J).bind fun J μ => (compL J (body1 T A TG CD own σm) T.n 0 [] μ).bind fun xs μ => newL xs μ) (kE g Q) := h
  have h : Good g W σ φ G H (((evE T IT σm μ).bind fun J μ => itM μ J).bind fun J μ => (compL J (body1 T A TG CD own σm) T.n 0 [] μ).bind fun xs μ => newL xs μ) (kE g Q) := by
    cases e0 : evE T IT σm μ <;> rw [e0] at h <;> exact h
  refine ⟨φ, G, μ, σm, sb, r, en, h.bind.imp fun J μ1 φ1 G1 H1 e1 r1 k J' hJ D hD => ?_⟩
  cases e0 : compL J (body1 T A TG CD own σm) T.n 0 [] μ1 with
  | exc x' μ' => exact absurd e0 (compL_noX body1_noX _ _ _ _ _ _)
  | no => rw [e0] at k; exact k.elim
  | ok accF μF =>
    rw [e0] at k
    have k : Good g W σ φ1 G1 H1 (newL accF μF) (kE g Q) := k
    have nD1 : G1 D = none := e1.sub.none hD
    have e01 : Ext none φ1 G1 H1 φ1 G1 (upd H1 D (.lst [])) := side_put (Ext.refl e1.sub) hD nD1
    refine ⟨WL g D φ1 G1 φ1 G1 H1 J J' (body1 T A TG CD own σm) accF μF, ⟨T.n, φ1, G1, μ1, [], [], Per.refl, e01, r1, hJ, upd_same, nD1, rvs_nil, e0⟩, fun i m H2 hw => ?_⟩
    obtain ⟨φ2, G2, μ2, acc, accV, p2, e2, r2, hJ2, hD2, nD2, rv2, hc⟩ := hw
    cases m with
    | zero => simp only [compL] at hc; cases hc
    | succ m =>
      simp only [compL] at hc
      split at hc
      · rename_i x hn
        obtain ⟨hgo, hyld⟩ := it_go r2 e2.sub hJ2 hn
        refine .inr ⟨hgo, fun H' => WL g D φ1 G1 φ1 G1 H1 J J' (body1 T A TG CD own σm) accF μF (i + 1) m H', fun H' hw' => ⟨m, Nat.lt_succ_self m, hw'⟩, fun v H3 hy => ?_⟩
        obtain ⟨G3, e3, r3, rx⟩ := hyld v H3 hy
        obtain ⟨e13, hD3, nD3⟩ := side e2 e3 hD2 nD2
        obtain ⟨acc', μ4, hb, hrest⟩ := bind_ok hc
        unfold body1 at hb
        obtain ⟨σ1, μ2', hb1, hb2⟩ := bind_ok hb
        obtain ⟨hb0, rfl⟩ := opt_ok hb1
        have hb2 := calm_ok hb2
        obtain ⟨kv, μ5, hc1, hb3⟩ := bind_ok hb2
        obtain ⟨kb, μ5', ht1, hb4⟩ := bind_ok hb3
        have en3 := ((((en.env.ext e1).ext e13).wipe own).blk hmd)
        refine ⟨φ2, G3, x, wipeM σm own, σ1, e3.sub, rx, en3, hb0, fun σ' en' st => ⟨(st.wipe hsl).trans (wipe_wipe own σ), φ2, G3, _, σ1, e3.sub, r3, RSt.of en', ?_⟩⟩
        refine good_ok (a := kb) (μ := μ5') (by rw [hc1]; exact ht1) fun φ4 G4 H4 e4 r4 => ?_
        obtain ⟨e14, hD4, nD4⟩ := side e13 e4 hD3 nD3
        cases kb with
        | true =>
          rw [if_pos rfl] at hb4 ⊢
          obtain ⟨vv, μ6, hv1, hp1⟩ := bind_ok hb4
          exact item_ok hD e14 r4 ((RSt.of en').ext e4) hD4 nD4 ((rv2.ext e3).ext e4) hv1 hp1 fun φ5 G5 H5 accV' e15 e45 r5 hD5 nD5 rv5 => ⟨φ5, G5, μ4, acc', accV', e15.per, e15, r5, ((hJ2.ext e3).ext e4).ext e45, hD5, nD5, rv5, hrest⟩
        | false =>
          rw [if_neg Bool.false_ne_true] at hb4 ⊢
          simp only [R.ok.injEq] at hb4
          obtain ⟨rfl, rfl⟩ := hb4
          exact ⟨φ4, G4, _, acc, accV, e14.per, e14, r4, (hJ2.ext e3).ext e4, hD4, nD4, (rv2.ext e3).ext e4, hrest⟩
      · rename_i hn
        simp only [R.ok.injEq] at hc
        obtain ⟨rfl, rfl⟩ := hc
        refine .inl ⟨it_stop r2 e2.sub hJ2 hn, ?_⟩
        unfold newL at k
        split at k
        · obtain ⟨e3, r3⟩ := side_end e2 r2 hD hD2 nD2 rv2
          refine k _ _ _ e3 r3 _ ?_
          simp only [RV]
          exact ⟨D, rfl, by rw [← r2.len, List.getElem?_append_right (Nat.le_refl _), Nat.sub_self]; rfl⟩
        · exact k.elim
      · cases hc
/-- the bodies of a comprehension of two clauses -/
def body2i (T : Tab) (A TG1 CD1 : E) (own1 : List Nat) (σ1 : Env) : List MV → MV → Mem → R (List MV) := fun acc x μ => (R.opt (bindT TG1 x (wipeM σ1 own1)) μ).bind fun σ2 μ => (evE T CD1 σ2 μ).bind fun k μ => (truR k μ).bind fun k μ =>
  if k then (evE T A σ2 μ).bind fun v μ => putL acc v μ else .ok acc μ
def body2 (T : Tab) (A TG CD TG1 IT1 CD1 : E) (own own1 : List Nat) (σm : Env) : List MV → MV → Mem → R (List MV) := fun acc x μ => (R.opt (bindT TG x (wipeM σm own)) μ).bind fun σ1 μ => R.calm ((evE T CD σ1 μ).bind fun k μ => (truR k μ).bind fun k μ =>
  if k then (evE T IT1 σ1 μ).bind fun J1 μ => (itM μ J1).bind fun J1 μ => compL J1 (body2i T A TG1 CD1 own1 σ1) T.n 0 acc μ else .ok acc μ)
theorem body2_noX {A TG CD TG1 IT1 CD1 : E} {own own1 : List Nat} {σm : Env} (acc : List MV) (x : MV) (μ : Mem) (x' : MX) (μ' : Mem) : body2 T A TG CD TG1 IT1 CD1 own own1 σm acc x μ ≠ .exc x' μ' := by
  unfold body2
  cases bindT TG x (wipeM σm own) with
  | none => simp [R.opt, R.bind]
  | some σ1 =>
    simp only [R.opt, R.bind]
    unfold R.calm
    split
    · simp
    · rename_i hne
      exact hne _ _
theorem comp2_read {IT A TG CD TG1 IT1 CD1 : E} {own own1 : List Nat} {σ : L2.St} {H : Hp} {Q : VK} (hmd : ∀ j a c d, md ≠ .exc j a c d) (hsl : ∀ i ∈ tgSlots TG, i ∈ own) (hsl1 : ∀ i ∈ tgSlots TG1, i ∈ own1) (h : tE g T W md (.comp2 A TG IT CD TG1 IT1 CD1 own own1) σ H Q) :
    tLc2 (tI g T W md IT) (gB g md.blk TG) (tT g T W0 md.blk CD) (tI g T W0 md.blk IT1) (gB g md.blk TG1) (tT g T W0 md.blk CD1) (tE g T W0 md.blk A) own own1 σ H Q := by
  obtain ⟨φ, G, μ, σm, sb, r, en, h⟩ := h
  simp only [evE] at h
  have h : Good g W σ φ G H ((evE T IT σm μ).bind fun J μ => (itM μ J).bind fun J μ => (compL J (body2 T A TG CD TG1 IT1 CD1 own own1 σm) T.n 0 [] μ).bind fun xs μ => newL xs μ) (kE g Q) := h
  have h : Good g W σ φ G H (((evE T IT σm μ).bind fun J μ => itM μ J).bind fun J μ => (compL J (body2 T A TG CD TG1 IT1 CD1 own own1 σm) T.n 0 [] μ).bind fun xs μ => newL xs μ) (kE g Q) := by
    cases e0 : evE T IT σm μ <;> rw [e0] at h <;> exact h
  refine ⟨φ, G, μ, σm, sb, r, en, h.bind.imp fun J μ1 φ1 G1 H1 e1 r1 k J' hJ D hD => ?_⟩
  generalize hbd : body2 T A TG CD TG1 IT1 CD1 own own1 σm = bd at k
  cases e0 : compL J bd T.n 0 [] μ1 with
  | exc x' μ' =>
    refine absurd e0 (compL_noX ?_ _ _ _ _ _ _)
    rw [← hbd]
    exact body2_noX
  | no => rw [e0] at k; exact k.elim
  | ok accF μF =>
    rw [e0] at k
    have k : Good g W σ φ1 G1 H1 (newL accF μF) (kE g Q) := k
    have nD1 : G1 D = none := e1.sub.none hD
    have e01 : Ext none φ1 G1 H1 φ1 G1 (upd H1 D (.lst [])) := side_put (Ext.refl e1.sub) hD nD1
    refine ⟨WL g D φ1 G1 φ1 G1 H1 J J' bd accF μF, ⟨T.n, φ1, G1, μ1, [], [], Per.refl, e01, r1, hJ, upd_same, nD1, rvs_nil, e0⟩, fun i m H2 hw => ?_⟩
    obtain ⟨φ2, G2, μ2, acc, accV, p2, e2, r2, hJ2, hD2, nD2, rv2, hc⟩ := hw
    cases m with
    | zero => simp only [compL] at hc; cases hc
    | succ m =>
      simp only [compL] at hc
      split at hc
      · rename_i x hn
        obtain ⟨hgo, hyld⟩ := it_go r2 e2.sub hJ2 hn
        refine .inr ⟨hgo, fun H' => WL g D φ1 G1 φ1 G1 H1 J J' bd accF μF (i + 1) m H', fun H' hw' => ⟨m, Nat.lt_succ_self m, hw'⟩, fun v H3 hy => ?_⟩
        obtain ⟨G3, e3, r3, rx⟩ := hyld v H3 hy
        obtain ⟨e13, hD3, nD3⟩ := side e2 e3 hD2 nD2
        obtain ⟨acc', μ4, hb, hrest⟩ := bind_ok hc
        have hb : body2 T A TG CD TG1 IT1 CD1 own own1 σm acc x μ2 = .ok acc' μ4 := by
          rw [hbd]
          exact hb
        unfold body2 at hb
        obtain ⟨σ1, μ2', hb1, hb2⟩ := bind_ok hb
        obtain ⟨hb0, rfl⟩ := opt_ok hb1
        have hb2 := calm_ok hb2
        obtain ⟨kv, μ5, hc1, hb3⟩ := bind_ok hb2
        obtain ⟨kb, μ5', ht1, hb4⟩ := bind_ok hb3
        have en3 := ((((en.env.ext e1).ext e13).wipe own).blk hmd)
        refine ⟨φ2, G3, x, wipeM σm own, σ1, e3.sub, rx, en3, hb0, fun σ' en' st => ⟨(st.wipe hsl).trans (wipe_wipe own σ), φ2, G3, _, σ1, e3.sub, r3, RSt.of en', ?_⟩⟩
        refine good_ok (a := kb) (μ := μ5') (by rw [hc1]; exact ht1) fun φ4 G4 H4 e4 r4 => ?_
        obtain ⟨e14, hD4, nD4⟩ := side e13 e4 hD3 nD3
        cases kb with
        | true =>
          rw [if_pos rfl] at hb4 ⊢
          obtain ⟨J1, μ6, hi1, hb5⟩ := bind_ok hb4
          obtain ⟨J2, μ7, hi2, hb6⟩ := bind_ok hb5
          refine ⟨φ4, G4, _, σ1, e4.sub, r4, (RSt.of en').ext e4, good_ok (a := J2) (μ := μ7) (by rw [hi1]; exact hi2) fun φ5 G5 H5 e5 r5 J2' hJ2' => ?_⟩
          obtain ⟨e15, hD5, nD5⟩ := side e14 e5 hD4 nD4
          refine ⟨WL g D φ5 G5 φ1 G1 H1 J2 J2' (body2i T A TG1 CD1 own1 σ1) acc' μ4, ⟨T.n, φ5, G5, μ7, acc, accV, Per.refl, e15, r5, hJ2', hD5, nD5, ((rv2.ext e3).ext e4).ext e5, hb6⟩, fun j n H6 hw6 => ?_⟩
          obtain ⟨φ6, G6, μ8, acc6, accV6, p6, e6, r6, hJ6, hD6, nD6, rv6, hc6⟩ := hw6
          cases n with
          | zero => simp only [compL] at hc6; cases hc6
          | succ n =>
            simp only [compL] at hc6
            split at hc6
            · rename_i y hn6
              obtain ⟨hgo6, hyld6⟩ := it_go r6 e6.sub hJ6 hn6
              refine .inr ⟨hgo6, fun H' => WL g D φ5 G5 φ1 G1 H1 J2 J2' (body2i T A TG1 CD1 own1 σ1) acc' μ4 (j + 1) n H', fun H' hw' => ⟨n, Nat.lt_succ_self n, hw'⟩, fun v H7 hy7 => ?_⟩
              obtain ⟨G7, e7, r7, ry⟩ := hyld6 v H7 hy7
              obtain ⟨e17, hD7, nD7⟩ := side e6 e7 hD6 nD6
              have p7 := p6.trans e7.per
              obtain ⟨acc8, μ9, hb7, hrest7⟩ := bind_ok hc6
              unfold body2i at hb7
              obtain ⟨σ2, μ8', hb8, hb9⟩ := bind_ok hb7
              obtain ⟨hb80, rfl⟩ := opt_ok hb8
              obtain ⟨kv7, μ10, hc7, hb10⟩ := bind_ok hb9
              obtain ⟨kb7, μ10', ht7, hb11⟩ := bind_ok hb10
              have en7 := ((((en'.ext e4).ext e5).per p7).wipe own1)
              refine ⟨φ6, G7, y, wipeM σ1 own1, σ2, e7.sub, ry, en7, hb80, fun σ'' en'' st'' => ⟨(st''.wipe hsl1).trans (wipe_wipe own1 σ'), φ6, G7, _, σ2, e7.sub, r7, RSt.of en'', ?_⟩⟩
              refine good_ok (a := kb7) (μ := μ10') (by rw [hc7]; exact ht7) fun φ8 G8 H8 e8 r8 => ?_
              obtain ⟨e18, hD8, nD8⟩ := side e17 e8 hD7 nD7
              have p8 := p7.trans e8.per
              cases kb7 with
              | true =>
                rw [if_pos rfl] at hb11 ⊢
                obtain ⟨vv, μ11, hv1, hp1⟩ := bind_ok hb11
                exact item_ok hD e18 r8 ((RSt.of en'').ext e8) hD8 nD8 ((rv6.ext e7).ext e8) hv1 hp1 fun φ9 G9 H9 accV' e19 e89 r9 hD9 nD9 rv9 => ⟨φ9, G9, μ9, acc8, accV', p8.trans e89.per, e19, r9, ((hJ6.ext e7).ext e8).ext e89, hD9, nD9, rv9, hrest7⟩
              | false =>
                rw [if_neg Bool.false_ne_true] at hb11 ⊢
                simp only [R.ok.injEq] at hb11
                obtain ⟨rfl, rfl⟩ := hb11
                exact ⟨φ8, G8, _, acc6, accV6, p8, e18, r8, (hJ6.ext e7).ext e8, hD8, nD8, (rv6.ext e7).ext e8, hrest7⟩
            · rename_i hn6
              simp only [R.ok.injEq] at hc6
              obtain ⟨rfl, rfl⟩ := hc6
              exact .inl ⟨it_stop r6 e6.sub hJ6 hn6, φ6, G6, _, acc6, accV6, e6.per, e6, r6, hJ.ext e6, hD6, nD6, rv6, hrest⟩
            · cases hc6
        | false =>
          rw [if_neg Bool.false_ne_true] at hb4 ⊢
          simp only [R.ok.injEq] at hb4
          obtain ⟨rfl, rfl⟩ := hb4
          exact ⟨φ4, G4, _, acc, accV, e14.per, e14, r4, (hJ2.ext e3).ext e4, hD4, nD4, (rv2.ext e3).ext e4, hrest⟩
      · rename_i hn
        simp only [R.ok.injEq] at hc
        obtain ⟨rfl, rfl⟩ := hc
        refine .inl ⟨it_stop r2 e2.sub hJ2 hn, ?_⟩
        unfold newL at k
        split at k
        · obtain ⟨e3, r3⟩ := side_end e2 r2 hD hD2 nD2 rv2
          refine k _ _ _ e3 r3 _ ?_
          simp only [RV]
          exact ⟨D, rfl, by rw [← r2.len, List.getElem?_append_right (Nat.le_refl _), Nat.sub_self]; rfl⟩
        · exact k.elim
      · cases hc
end
end Mch

/-! ## Statements -/
namespace Mch
open PySem PySem.Spec PyProof.Rows L2
section
variable {g : Glob} {φ φ1 : List Addr} {G G1 H H1 : Hp} {md : Md} {σm : Env} {σ : L2.St}
/-- what a statement's end gives -/
def GoodS (g : Glob) (W : WX) (md : Md) (φ : List Addr) (G H : Hp) (D : Ends) : RS → Prop
  | .ok (.next σm) μ => ∀ φ1 G1 H1 σ', Ext md.adr φ G H φ1 G1 H1 → Rel g φ1 G1 μ → RSt g φ1 G1 H1 md σm σ' → D.nx σ' H1
  | .ok (.brk σm) μ => ∀ φ1 G1 H1 σ', Ext md.adr φ G H φ1 G1 H1 → Rel g φ1 G1 μ → RSt g φ1 G1 H1 md σm σ' → D.bk σ' H1
  | .ok (.cnt σm) μ => ∀ φ1 G1 H1 σ', Ext md.adr φ G H φ1 G1 H1 → Rel g φ1 G1 μ → RSt g φ1 G1 H1 md σm σ' → D.ct σ' H1
  | .ok (.ret v) μ => ∀ φ1 G1 H1 w, Ext md.adr φ G H φ1 G1 H1 → Rel g φ1 G1 μ → RV g φ1 G1 v w → D.rt w H1
  | .exc x σm μ => ∀ φ1 G1 H1 σ', Ext md.adr φ G H φ1 G1 H1 → Rel g φ1 G1 μ → RSt g φ1 G1 H1 md σm σ' → ∀ cls dd, RX g φ1 G1 H1 x cls dd → W cls dd σ' H1
  | .no => False
variable {W : WX} {D D' : Ends}
theorem GoodS.ext {r : RS} (h : GoodS g W md φ G H D r) (e : Ext md.adr φ G H φ1 G1 H1) : GoodS g W md φ1 G1 H1 D r := by
  cases r with
  | ok f μ => cases f with
    | next σm => exact fun φ2 G2 H2 σ' e2 r2 s2 => h φ2 G2 H2 σ' (e.trans e2) r2 s2
    | brk σm => exact fun φ2 G2 H2 σ' e2 r2 s2 => h φ2 G2 H2 σ' (e.trans e2) r2 s2
    | cnt σm => exact fun φ2 G2 H2 σ' e2 r2 s2 => h φ2 G2 H2 σ' (e.trans e2) r2 s2
    | ret v => exact fun φ2 G2 H2 w e2 r2 s2 => h φ2 G2 H2 w (e.trans e2) r2 s2
  | exc x σm μ => exact fun φ2 G2 H2 σ' e2 r2 s2 => h φ2 G2 H2 σ' (e.trans e2) r2 s2
  | no => exact h
/-- a run, read as a statement -/
def tR (g : Glob) (W : WX) (md : Md) (run : Env → Mem → RS) : TS := fun D σ H => ∃ φ G μ σm, Sub G H ∧ Rel g φ G μ ∧ RSt g φ G H md σm σ ∧ GoodS g W md φ G H D (run σm μ)
theorem GoodS.go {r : RS} {f : Env → Mem → RS} (h : GoodS g W md φ G H D (r.go f)) : GoodS g W md φ G H { D with nx := tR g W md f D } r := by
  cases r with
  | ok fl μ => cases fl with
    | next σm => exact fun φ2 G2 H2 σ' e2 r2 s2 => ⟨φ2, G2, μ, σm, e2.sub, r2, s2, GoodS.ext (r := f σm μ) h e2⟩
    | brk σm => exact h
    | cnt σm => exact h
    | ret v => exact h
  | exc x σm μ => exact h
  | no => exact h
/-- an expression, then the rest of a statement -/
theorem GoodS.stm {α : Type} {r : R α} {f : α → Mem → RS} (st : RSt g φ G H md σm σ) (h : GoodS g W md φ G H D (r.stm σm f)) : Good g W σ φ G H r fun a μ φ1 G1 H1 => GoodS g W md φ1 G1 H1 D (f a μ) := by
  cases r with
  | ok a μ => exact fun φ1 G1 H1 e r1 => GoodS.ext (r := f a μ) h e.weak
  | exc x μ => exact fun φ1 G1 H1 e r1 => h φ1 G1 H1 σ e.weak r1 (st.ext e)
  | no => exact h
theorem GoodS.here {μ : Mem} (h : GoodS g W md φ G H D (.ok (.next σm) μ)) (s : Sub G H) (r : Rel g φ G μ) (st : RSt g φ G H md σm σ) : D.nx σ H := h φ G H σ (Ext.refl s) r st
end
section
variable {X : Cx} {g : Glob} {T : Tab} {W : WX} {md : Md} {pos : Pos} {e c : PySem.Expr} {A C : E} {a b : List Stmt} {Ab Bb : List S}
theorem ss_nil : PSs X [] (tR g W md (evB T [])) := by
  refine ⟨fun pins s σ H D I h => pss_nil.run pins s σ H D I ?_⟩
  obtain ⟨φ, G, μ, σm, sb, r, st, h⟩ := h
  simp only [evB] at h
  exact h.here sb r st
theorem ss_cons {st : Stmt} {rest : List Stmt} {s : S} {bs : List S} (h1 : PS X st (tR g W md (evS T s))) (h2 : PSs X rest (tR g W md (evB T bs))) : PSs X (st :: rest) (tR g W md (evB T (s :: bs))) := by
  refine ⟨fun pins s σ H D I h => (pss_cons h1 h2).run pins s σ H D I ?_⟩
  obtain ⟨φ, G, μ, σm, sb, r, st, h⟩ := h
  simp only [evB] at h
  exact ⟨φ, G, μ, σm, sb, r, st, h.go⟩
theorem sp_pass : PS X (.Pass pos) (tR g W md (evS T .pass)) := by
  refine ⟨fun pins s σ H D I h => ps_pass.run pins s σ H D I ?_⟩
  obtain ⟨φ, G, μ, σm, sb, r, st, h⟩ := h
  simp only [evS] at h
  exact h.here sb r st
theorem sp_brk : PS X (.Break pos) (tR g W md (evS T .brk)) := by
  refine ⟨fun pins s σ H D I h => ps_break.run pins s σ H D I ?_⟩
  obtain ⟨φ, G, μ, σm, sb, r, st, h⟩ := h
  simp only [evS] at h
  exact h φ G H σ (Ext.refl sb) r st
theorem sp_cnt : PS X (.Continue pos) (tR g W md (evS T .cnt)) := by
  refine ⟨fun pins s σ H D I h => ps_continue.run pins s σ H D I ?_⟩
  obtain ⟨φ, G, μ, σm, sb, r, st, h⟩ := h
  simp only [evS] at h
  exact h φ G H σ (Ext.refl sb) r st
theorem sp_retN : PS X (.Return none pos) (tR g W md (evS T .retN)) := by
  refine ⟨fun pins s σ H D I h => ps_retN.run pins s σ H D I ?_⟩
  obtain ⟨φ, G, μ, σm, sb, r, st, h⟩ := h
  simp only [evS] at h
  exact h φ G H _ (Ext.refl sb) r (by simp only [RV])
theorem sp_ret (he : PE X e (tE g T W md A)) : PS X (.Return (some e) pos) (tR g W md (evS T (.ret A))) := by
  refine ⟨fun pins s σ H D I h => (ps_ret he).run pins s σ H D I ?_⟩
  obtain ⟨φ, G, μ, σm, sb, r, st, h⟩ := h
  simp only [evS] at h
  exact ⟨φ, G, μ, σm, sb, r, st, (h.stm st).imp fun v μ1 φ1 G1 H1 e1 r1 k w hw => k φ1 G1 H1 w (Ext.refl e1.sub) r1 hw⟩
def notComp : PySem.Expr → Bool
  | .ListComp _ _ _ _ => false
  | .SetComp _ _ _ _ => false
  | .DictComp _ _ _ _ _ => false
  | _ => true
theorem swaps_no {t : Option PySem.Expr} {l : Nat} {env : PySem.Env} (h : notComp e = true) : swapsWith e t l env = pure false := by
  cases e <;> first | rfl | cases h
theorem sp_expr (hn : notComp e = true) (he : PE X e (tE g T W md A)) : PS X (.Expr e pos) (tR g W md (evS T (.expr A))) := by
  refine ⟨fun pins s σ H D I h => (ps_expr he (swaps_no hn)).run pins s σ H D I ?_⟩
  obtain ⟨φ, G, μ, σm, sb, r, st, h⟩ := h
  simp only [evS] at h
  exact ⟨φ, G, μ, σm, sb, r, st, (h.stm st).imp fun v μ1 φ1 G1 H1 e1 r1 k w hw => k.here e1.sub r1 (st.ext e1)⟩
theorem stm_bind {α β : Type} {r : R α} {f : α → Mem → R β} {k : β → Mem → RS} {σm : Env} : (r.bind f).stm σm k = r.stm σm fun a μ => (f a μ).stm σm k := by
  cases r <;> rfl
theorem sp_ite (hc : PT X c (tT g T W md C)) (ha : PSs X a (tR g W md (evB T Ab))) (hb : PSs X b (tR g W md (evB T Bb))) : PS X (.If c a b pos) (tR g W md (evS T (.ite C Ab Bb))) := by
  refine ⟨fun pins s σ H D I h => (ps_if hc ha hb).run pins s σ H D I ?_⟩
  obtain ⟨φ, G, μ, σm, sb, r, st, h⟩ := h
  simp only [evS] at h
  rw [← stm_bind (f := truR) (k := fun k μ => if k then evB T Ab σm μ else evB T Bb σm μ)] at h
  refine ⟨φ, G, μ, σm, sb, r, st, (h.stm st).imp fun k μ1 φ1 G1 H1 e1 r1 q => ?_⟩
  cases k with
  | true =>
    rw [if_pos rfl] at q ⊢
    exact ⟨φ1, G1, μ1, σm, e1.sub, r1, st.ext e1, q⟩
  | false =>
    rw [if_neg Bool.false_ne_true] at q ⊢
    exact ⟨φ1, G1, μ1, σm, e1.sub, r1, st.ext e1, q⟩
/-! ### loops -/
theorem sp_while (hp : PassesOwn (model X.prog X.w) X.A X.env X.xe) (hc : PT X c (tT g T W md C)) (hb : PSs X b (tR g W md (evB T Bb))) : PS X (.While c b [] pos) (tR g W md (evS T (.while C Bb))) := by
  refine ⟨fun pins s σ H D I h => (ps_while hp hc hb).run pins s σ H D I ?_⟩
  obtain ⟨φ, G, μ, σm, sb, r, st, h⟩ := h
  simp only [evS] at h
  generalize hr0 : whileL (fun σ μ => (evE T C σ μ).bind truR) (evB T Bb) T.n σm μ = r0 at h
  refine ⟨fun m σ' H' => ∃ φ1 G1 μ1 σm1, Ext md.adr φ G H φ1 G1 H' ∧ Rel g φ1 G1 μ1 ∧ RSt g φ1 G1 H' md σm1 σ' ∧ whileL (fun σ μ => (evE T C σ μ).bind truR) (evB T Bb) m σm1 μ1 = r0, ⟨T.n, φ, G, μ, σm, Ext.refl sb, r, st, hr0⟩, fun m σ1 H1 hw => ?_⟩
  obtain ⟨φ1, G1, μ1, σm1, e1, r1, st1, hl⟩ := hw
  cases m with
  | zero =>
    simp only [whileL] at hl
    subst hl
    exact h.elim
  | succ m =>
    simp only [whileL] at hl
    rw [← hl] at h
    refine ⟨φ1, G1, μ1, σm1, e1.sub, r1, st1, ?_⟩
    have h1 := GoodS.ext h e1
    refine (GoodS.stm st1 h1).imp2 fun k μ2 φ2 G2 H2 e0 e2 r2 q => ?_
    rw [e0] at hl
    simp only [R.stm] at hl
    have st2 := st1.ext e2
    cases k with
    | false =>
      rw [if_neg Bool.false_ne_true] at q ⊢
      exact q.here e2.sub r2 st2
    | true =>
      rw [if_pos rfl] at q hl ⊢
      refine ⟨fun σ' H' => ∃ φ1 G1 μ1 σm1, Ext md.adr φ G H φ1 G1 H' ∧ Rel g φ1 G1 μ1 ∧ RSt g φ1 G1 H' md σm1 σ' ∧ whileL (fun σ μ => (evE T C σ μ).bind truR) (evB T Bb) m σm1 μ1 = r0, fun σ' H' hN => ⟨m, Nat.lt_succ_self m, hN⟩, φ2, G2, μ2, σm1, e2.sub, r2, st2, ?_⟩
      have e02 : Ext md.adr φ G H φ2 G2 H2 := e1.trans e2.weak
      cases hbb : evB T Bb σm1 μ2 with
      | no => rw [hbb] at q; exact q.elim
      | exc x σ3 μ3 => rw [hbb] at q; exact q
      | ok f μ3 =>
        rw [hbb] at q hl
        cases f with
        | ret v => exact q
        | brk σ3 => exact q
        | next σ3 => exact fun φ3 G3 H3 σ' e3 r3 s3 => ⟨φ3, G3, μ3, σ3, e02.trans e3, r3, s3, hl⟩
        | cnt σ3 => exact fun φ3 G3 H3 σ' e3 r3 s3 => ⟨φ3, G3, μ3, σ3, e02.trans e3, r3, s3, hl⟩
theorem RSt.sto {φ : List Addr} {G H : Hp} {σm σm' : Env} {σ σ' : L2.St} {A : E} (h : RSt g φ G H md σm σ) (hb : ∀ i, i ∉ tgSlots A → σm'[i]? = σm[i]?) (en : REnv g φ G md σm' σ') (st : Sto (tgSlots A) σ σ') (hi : ∀ i ∈ tgSlots A, md.ex i = false) : RSt g φ G H md σm' σ' := by
  refine ⟨en, ?_⟩
  have hs := h.self
  cases md with
  | no => trivial
  | hid0 => trivial
  | ini x =>
    have n0 : 0 ∉ tgSlots A := fun z => by
      have := hi 0 z
      simp [Md.ex] at this
    obtain ⟨C, dx, fs, c, vs, Cl, h1, h3, h4, h5, h6⟩ := hs
    exact ⟨C, dx, fs, c, vs, Cl, by rw [st.2 0 n0]; exact h1, h3, h4, by rw [hb 0 n0]; exact h5, h6⟩
  | exc j a cls dd =>
    have n0 : j ∉ tgSlots A := fun z => by
      have := hi j z
      simp [Md.ex] at this
    obtain ⟨c, vs, h1, h2, h3⟩ := hs
    exact ⟨c, vs, by rw [st.2 j n0]; exact h1, by rw [hb j n0]; exact h2, h3⟩
mutual
theorem bind_out : ∀ (A : E) (v : MV) (σ σ' : Env), bindT A v σ = some σ' → ∀ i, i ∉ tgSlots A → σ'[i]? = σ[i]?
  | .var j, v, σ, σ', h, i, hi => by
    simp only [bindT, Option.some.injEq] at h
    subst h
    simp only [tgSlots, List.mem_singleton] at hi
    exact List.getElem?_set_ne (fun z => hi z.symm)
  | .tup ts, v, σ, σ', h, i, hi => by
    simp only [bindT] at h
    split at h
    · split at h
      · simp only [tgSlots] at hi
        exact binds_out ts _ σ σ' h i hi
      · cases h
    · cases h
  | .non, _, _, _, h, _, _ => by simp only [bindT] at h; cases h
  | .bl _, _, _, _, h, _, _ => by simp only [bindT] at h; cases h
  | .int _, _, _, _, h, _, _ => by simp only [bindT] at h; cases h
  | .str _, _, _, _, h, _, _ => by simp only [bindT] at h; cases h
  | .fn _, _, _, _, h, _, _ => by simp only [bindT] at h; cases h
  | .gc _, _, _, _, h, _, _ => by simp only [bindT] at h; cases h
  | .neg _, _, _, _, h, _, _ => by simp only [bindT] at h; cases h
  | .not _, _, _, _, h, _, _ => by simp only [bindT] at h; cases h
  | .bin _ _ _, _, _, _, h, _, _ => by simp only [bindT] at h; cases h
  | .cmp _ _ _, _, _, _, h, _, _ => by simp only [bindT] at h; cases h
  | .cmp2 _ _ _ _ _, _, _, _, h, _, _ => by simp only [bindT] at h; cases h
  | .and _ _, _, _, _, h, _, _ => by simp only [bindT] at h; cases h
  | .or _ _, _, _, _, h, _, _ => by simp only [bindT] at h; cases h
  | .ite _ _ _, _, _, _, h, _, _ => by simp only [bindT] at h; cases h
  | .lst _, _, _, _, h, _, _ => by simp only [bindT] at h; cases h
  | .fld _ _, _, _, _, h, _, _ => by simp only [bindT] at h; cases h
  | .xfld _ _, _, _, _, h, _, _ => by simp only [bindT] at h; cases h
  | .idx _ _, _, _, _, h, _, _ => by simp only [bindT] at h; cases h
  | .slc _ _ _, _, _, _, h, _, _ => by simp only [bindT] at h; cases h
  | .call _ _, _, _, _, h, _, _ => by simp only [bindT] at h; cases h
  | .callv _ _, _, _, _, h, _, _ => by simp only [bindT] at h; cases h
  | .mk _ _, _, _, _, h, _, _ => by simp only [bindT] at h; cases h
  | .bi _ _, _, _, _, h, _, _ => by simp only [bindT] at h; cases h
  | .mth _ _ _, _, _, _, h, _, _ => by simp only [bindT] at h; cases h
  | .omth _ _ _, _, _, _, h, _, _ => by simp only [bindT] at h; cases h
  | .isin _ _, _, _, _, h, _, _ => by simp only [bindT] at h; cases h
  | .comp _ _ _ _ _, _, _, _, h, _, _ => by simp only [bindT] at h; cases h
  | .comp2 _ _ _ _ _ _ _ _ _, _, _, _, h, _, _ => by simp only [bindT] at h; cases h
  | .rng _, _, _, _, h, _, _ => by simp only [bindT] at h; cases h
  | .zip _ _, _, _, _, h, _, _ => by simp only [bindT] at h; cases h
  | .enum _, _, _, _, h, _, _ => by simp only [bindT] at h; cases h
theorem binds_out : ∀ (As : List E) (vs : List MV) (σ σ' : Env), bindT.go As vs σ = some σ' → ∀ i, i ∉ tgSlotss As → σ'[i]? = σ[i]?
  | [], [], σ, σ', h, i, _ => by
    simp only [bindT.go, Option.some.injEq] at h
    rw [h]
  | [], _ :: _, _, _, h, _, _ => by simp only [bindT.go] at h; cases h
  | _ :: _, [], _, _, h, _, _ => by simp only [bindT.go] at h; cases h
  | A :: As, v :: vs, σ, σ', h, i, hi => by
    simp only [bindT.go] at h
    obtain ⟨σ1, h1, h2⟩ := Option.bind_eq_some_iff.mp h
    simp only [tgSlotss, List.mem_append, not_or] at hi
    rw [binds_out As vs σ1 σ' h2 i hi.2, bind_out A v σ σ1 h1 i hi.1]
end
theorem sp_for {tg iter : PySem.Expr} {TG IT : E} (hp : PassesOwn (model X.prog X.w) X.A X.env X.xe) (hc : X.calm = true) (hf : notSet iter = true) (hs0 : ∀ i ∈ tgSlots TG, md.ex i = false) (hi : PI X tg iter (tI g T W md IT)) (hg : PG X tg (gB g md TG)) (hb : PSs X b (tR g W md (evB T Bb))) :
    PS X (.For tg iter b [] pos) (tR g W md (evS T (.for TG IT Bb))) := by
  refine ⟨fun pins s σ H D I h => (ps_for hp hc hi hg hb (fold_of hf)).run pins s σ H D I ?_⟩
  obtain ⟨φ, G, μ, σm, sb, r, st, h⟩ := h
  simp only [evS] at h
  rw [← stm_bind (f := fun J μ => itM μ J)] at h
  refine ⟨φ, G, μ, σm, sb, r, st, (h.stm st).imp fun J μ1 φ1 G1 H1 e1 r1 q J' hJ => ?_⟩
  have st1 := st.ext e1
  generalize hr0 : forL J (bindT TG) (evB T Bb) T.n 0 σm μ1 = r0 at q
  refine ⟨fun i m σ' H' => ∃ φ2 G2 μ2 σm2, Ext md.adr φ1 G1 H1 φ2 G2 H' ∧ Rel g φ2 G2 μ2 ∧ RSt g φ2 G2 H' md σm2 σ' ∧ ItR g φ2 G2 J J' ∧ forL J (bindT TG) (evB T Bb) m i σm2 μ2 = r0, ⟨T.n, φ1, G1, μ1, σm, Ext.refl e1.sub, r1, st1, hJ, hr0⟩, fun i m σ2 H2 hw => ?_⟩
  obtain ⟨φ2, G2, μ2, σm2, e2, r2, st2, hJ2, hl⟩ := hw
  cases m with
  | zero =>
    simp only [forL] at hl
    subst hl
    exact q.elim
  | succ m =>
    simp only [forL] at hl
    have q2 := GoodS.ext q e2
    split at hl
    · rename_i x hn
      obtain ⟨hgo, hyld⟩ := it_go r2 e2.sub hJ2 hn
      refine .inr ⟨hgo, fun σ' H' => ∃ φ2 G2 μ2 σm2, Ext md.adr φ1 G1 H1 φ2 G2 H' ∧ Rel g φ2 G2 μ2 ∧ RSt g φ2 G2 H' md σm2 σ' ∧ ItR g φ2 G2 J J' ∧ forL J (bindT TG) (evB T Bb) m (i + 1) σm2 μ2 = r0, fun σ' H' hN => ⟨m, Nat.lt_succ_self m, hN⟩, fun v H3 hy => ?_⟩
      obtain ⟨G3, e3, r3, rx⟩ := hyld v H3 hy
      have st3 := st2.ext e3
      have q3 := GoodS.ext q2 e3.weak
      have e13 : Ext md.adr φ1 G1 H1 φ2 G3 H3 := e2.trans e3.weak
      split at hl
      · rename_i σm3 hbt
        refine ⟨φ2, G3, x, σm2, σm3, e3.sub, rx, st3.env, hbt, fun σ' en' sto => ?_⟩
        have st4 := st3.sto (bind_out TG x σm2 σm3 hbt) en' sto hs0
        refine ⟨φ2, G3, μ2, σm3, e3.sub, r3, st4, ?_⟩
        rw [← hl] at q3
        cases hbb : evB T Bb σm3 μ2 with
        | no => rw [hbb] at q3; exact q3.elim
        | exc x σ3 μ3 => rw [hbb] at q3; exact q3
        | ok f μ3 =>
          rw [hbb] at q3 hl
          cases f with
          | ret v => exact q3
          | brk σ3 => exact q3
          | next σ3 => exact fun φ4 G4 H4 σ' e4 r4 s4 => ⟨φ4, G4, μ3, σ3, e13.trans e4, r4, s4, (hJ2.ext e3).ext e4, hl⟩
          | cnt σ3 => exact fun φ4 G4 H4 σ' e4 r4 s4 => ⟨φ4, G4, μ3, σ3, e13.trans e4, r4, s4, (hJ2.ext e3).ext e4, hl⟩
      · rw [← hl] at q3
        exact q3.elim
    · rename_i hn
      rw [← hl] at q2
      exact .inl ⟨it_stop r2 e2.sub hJ2 hn, q2.here e2.sub r2 st2⟩
    · rw [← hl] at q2
      exact q2.elim
/-! ### assignments -/
def GoodA (g : Glob) (md : Md) (φ : List Addr) (G H : Hp) (Q : L2.St → Hp → Prop) : R Env → Prop
  | .ok σm μ => ∀ φ1 G1 H1 σ', Ext md.adr φ G H φ1 G1 H1 → Rel g φ1 G1 μ → RSt g φ1 G1 H1 md σm σ' → Q σ' H1
  | _ => False
theorem GoodA.ext {φ φ1 : List Addr} {G G1 H H1 : Hp} {Q : L2.St → Hp → Prop} {r : R Env} (h : GoodA g md φ G H Q r) (e : Ext md.adr φ G H φ1 G1 H1) : GoodA g md φ1 G1 H1 Q r := by
  cases r with
  | ok σm μ => exact fun φ2 G2 H2 σ' e2 r2 s2 => h φ2 G2 H2 σ' (e.trans e2) r2 s2
  | _ => exact h
def gA (g : Glob) (T : Tab) (md : Md) (A : E) : TG := fun v σ H Q => ∃ φ G μ x σm, Sub G H ∧ Rel g φ G μ ∧ RV g φ G x v ∧ RSt g φ G H md σm σ ∧ GoodA g md φ G H Q (asgT T A x σm μ)
def gAs (g : Glob) (T : Tab) (md : Md) (As : List E) : TGs := fun vs σ H Q => ∃ φ G μ xs σm, Sub G H ∧ Rel g φ G μ ∧ RVs g φ G xs vs ∧ RSt g φ G H md σm σ ∧ GoodA g md φ G H Q (asgT.go T As xs σm μ)
theorem ga_var {i : Nat} {x : Str} (hN : X.N.Nodup) (hi : X.N[i]? = some x) (hx : Loc X.env.scope x) (hf : X.fn x = true ∨ X.env.scope.names.lookup x = some .local) (h0 : md.ex i = false) : PG X (.Name x pos) (gA g T md (.var i)) := by
  refine ⟨fun pins s σ H v u Q I r h => (pg_name hN hi hx hf).run pins s σ H v u Q I r ?_⟩
  obtain ⟨φ, G, μ, x, σm, sb, rl, rv, st, h⟩ := h
  simp only [asgT] at h
  exact h φ G H _ (Ext.refl sb) rl (st.set rv h0)
theorem gas_nil : PGs X [] (gAs g T md []) := by
  refine ⟨fun pins s σ H vs us Q I r h => pgs_nil.run pins s σ H vs us Q I r ?_⟩
  obtain ⟨φ, G, μ, xs, σm, sb, rl, rv, st, h⟩ := h
  cases xs with
  | nil =>
    simp only [RVs] at rv
    simp only [asgT.go] at h
    exact ⟨rv, h φ G H _ (Ext.refl sb) rl st⟩
  | cons x xs => simp only [asgT.go] at h; exact h.elim
theorem gas_cons {t : PySem.Expr} {ts : List PySem.Expr} {A : E} {As : List E} (hp : plain t = true) (h1 : PG X t (gA g T md A)) (h2 : PGs X ts (gAs g T md As)) : PGs X (t :: ts) (gAs g T md (A :: As)) := by
  refine ⟨fun pins s σ H vs us Q I r h => (pgs_cons h1 h2 (by rw [assign_cons hp]; rfl)).run pins s σ H vs us Q I r ?_⟩
  obtain ⟨φ, G, μ, xs, σm, sb, rl, rv, st, h⟩ := h
  cases xs with
  | nil => simp only [asgT.go] at h; exact h.elim
  | cons x xs =>
    simp only [RVs] at rv
    obtain ⟨v, vr, rfl, hv, hr⟩ := rv
    simp only [asgT.go] at h
    refine ⟨v, vr, rfl, φ, G, μ, x, σm, sb, rl, hv, st, ?_⟩
    cases e0 : asgT T A x σm μ with
    | ok σ1 μ1 =>
      rw [e0] at h
      exact fun φ1 G1 H1 σ' e1 r1 s1 => ⟨φ1, G1, μ1, xs, σ1, e1.sub, r1, hr.ext e1, s1, GoodA.ext (r := asgT.go T As xs σ1 μ1) h e1⟩
    | exc x' μ1 => rw [e0] at h; exact h.elim
    | no => rw [e0] at h; exact h.elim
theorem ga_tup {ts : List PySem.Expr} {As : List E} {j : Nat} (hc : X.calm = true) (hK : g.K = X.K) (hp : ts.all plain = true) (hl : ts.length = As.length) (h : PGs X ts (gAs g T md As)) : PG X (.Tuple ts j pos) (gA g T md (.tup As)) := by
  obtain ⟨a1, a2⟩ := assign_len (env := X.env) hp
  refine ⟨fun pins s σ H v u Q I r hh => ?_⟩
  obtain ⟨φ, G, μ, x, σm, sb, rl, rv, st, hh⟩ := hh
  simp only [asgT] at hh
  split at hh
  · rename_i xs
    split at hh
    · rename_i hlen
      refine (pg_tup hc h rfl a2).run pins s σ H v u Q I r ?_
      simp only [RV] at rv
      obtain ⟨a, vs, rfl, hq, hr⟩ := rv
      rw [hK] at hq
      exact ⟨a, vs, rfl, sqT_sub sb hq, by rw [a1, hl, ← hr.len, hlen], φ, G, μ, xs, σm, sb, rl, hr, st, hh⟩
    · exact hh.elim
  · split at hh
    · rename_i i xs e
      split at hh
      · rename_i hlen
        refine (pg_lst hc h rfl a2).run pins s σ H v u Q I r ?_
        obtain ⟨a, vs, rfl, _, hq, hr⟩ := rl.ref e rv
        rw [hK] at hq
        exact ⟨a, vs, rfl, sqL_sub sb hq, by rw [a1, hl, ← hr.len, hlen], φ, G, μ, xs, σm, sb, rl, hr, st, hh⟩
      · exact hh.elim
    · exact hh.elim
  · exact hh.elim
/-- xs[i] = v by values, whatever -/
def rSetM (g : Glob) : TSet := fun o i v H Q => ∃ φ G μ x y z, Sub G H ∧ Rel g φ G μ ∧ RV g φ G x o ∧ RV g φ G y i ∧ RV g φ G z v ∧ Good g W0 [] φ G H (setM μ x y z) fun _ _ _ _ H1 => Q H1
theorem set_noX {μ : Mem} {x y z : MV} (x' : MX) (μ' : Mem) : setM μ x y z ≠ .exc x' μ' := by
  unfold setM
  split
  · split
    · split <;> simp
    · simp
  · simp
theorem setR_ok : PSet X (rSetM g) := by
  intro pins s σ H o i v ov iv u Q I ro ri rv h
  obtain ⟨φ, G, μ, x, y, z, sb, r, rx, ry, rz, h⟩ := h
  exact set_ok (W := W0) I r sb (h.noX fun x' μ' => set_noX x' μ') rx ry rz ro ri rv
theorem asg_sub {o i : PySem.Expr} {env : PySem.Env} (h : notSlice i = true) (v : Value) : assign (.Subscript o i pos) env v = (do
      let ov ← holding [v] (eval o env)
      let iv ← holding [v, ov] (eval i env)
      standAt pos
      holding [v, ov, iv] (setItem ov iv v)
      release [v, ov, iv] []) := by
  cases i <;> first | rfl | cases h
theorem ga_idx {o i : PySem.Expr} {O B : E} (hn : notSlice i = true) (ho : PE X o (tE g T W md O)) (hi : PE X i (tE g T W md B)) : PG X (.Subscript o i pos) (gA g T md (.idx O B)) := by
  refine ⟨fun pins s σ H v u Q I r h => (pg_sub ho hi (setR_ok (g := g)) (asg_sub hn)).run pins s σ H v u Q I r ?_⟩
  obtain ⟨φ, G, μ, x, σm, sb, rl, rv, st, h⟩ := h
  simp only [asgT] at h
  cases e0 : evE T O σm μ with
  | no => rw [e0] at h; exact h.elim
  | exc x' μ1 => rw [e0] at h; exact h.elim
  | ok y μ1 =>
    rw [e0] at h
    simp only [R.bind] at h
    cases e1 : evE T B σm μ1 with
    | no => rw [e1] at h; exact h.elim
    | exc x' μ2 => rw [e1] at h; exact h.elim
    | ok z μ2 =>
      rw [e1] at h
      simp only at h
      cases e2 : setM μ2 y z x with
      | no => rw [e2] at h; exact h.elim
      | exc x' μ3 => rw [e2] at h; exact h.elim
      | ok _ μ3 =>
        rw [e2] at h
        simp only at h
        refine ⟨φ, G, μ, σm, sb, rl, st, good_ok e0 fun φ1 G1 H1 x1 r1 w hw => ⟨φ1, G1, μ1, σm, x1.sub, r1, st.ext x1, good_ok e1 fun φ2 G2 H2 x2 r2 w2 hw2 => ?_⟩⟩
        refine ⟨φ2, G2, μ2, y, z, x, x2.sub, r2, hw.ext x2, hw2, (rv.ext x1).ext x2, ?_⟩
        refine good_ok e2 fun φ3 G3 H3 x3 r3 => ?_
        exact h φ3 G3 H3 σ ((x1.trans x2).trans x3).weak r3 (((st.ext x1).ext x2).ext x3)
theorem assign1 {t : PySem.Expr} {env : PySem.Env} (h : plain t = true) : (assignEach [t] env).map (·.2) = [assign t env] := by
  rw [assign_cons h]
  rfl
def notSeq : PySem.Expr → Bool
  | .Tuple _ _ _ => false
  | .List _ _ => false
  | _ => true
theorem sw_none {t : PySem.Expr} {env : PySem.Env} (h : notSeq t = true ∨ notSeq e = true) : swappedStores [t] e env = pure none := by
  unfold swappedStores
  split
  · rename_i h2
    exfalso
    split at h2
    · rename_i heq
      rcases h with h | h
      · simp only [List.cons.injEq, and_true] at heq
        subst heq
        cases h
      · cases h
    · rename_i heq
      rcases h with h | h
      · simp only [List.cons.injEq, and_true] at heq
        subst heq
        cases h
      · cases h
    · cases h2
  · rfl
theorem sp_asg {t : PySem.Expr} {TT : E} (hn : notComp e = true) (hp : plain t = true) (hw : swappedStores [t] e X.env = pure none) (he : PE X e (tE g T W md A)) (hg : PG X t (gA g T md TT)) : PS X (.Assign [t] e pos) (tR g W md (evS T (.asg TT A))) := by
  refine ⟨fun pins s σ H D I h => (ps_asg he hg (swaps_no hn) hw (assign1 hp)).run pins s σ H D I ?_⟩
  obtain ⟨φ, G, μ, σm, sb, r, st, h⟩ := h
  simp only [evS] at h
  refine ⟨φ, G, μ, σm, sb, r, st, (h.stm st).imp fun v μ1 φ1 G1 H1 e1 r1 k w hw => ⟨φ1, G1, μ1, v, σm, e1.sub, r1, hw, st.ext e1, ?_⟩⟩
  cases e0 : asgT T TT v σm μ1 with
  | ok σ1 μ2 => rw [e0] at k; exact k
  | exc x' μ2 => rw [e0] at k; exact k.elim
  | no => rw [e0] at k; exact k.elim
end
end Mch

/-! ## try with several clauses, each with a name or without -/
namespace Mch
open PySem PySem.Spec PyProof.Rows L2
/-- how a suite goes on behind its clause: the name is unbound -/
def outOf (n : Option Nat) (D : Ends) : Ends := match n with
  | none => D
  | some i => { nx := fun σ H => D.nx (σ.set i none) H, rt := D.rt, bk := fun σ H => D.bk (σ.set i none) H, ct := fun σ H => D.ct (σ.set i none) H }
def intoS (n : Option Nat) (a : Addr) (σ : L2.St) : L2.St := match n with
  | none => σ
  | some i => σ.set i (some (.ref a))
/-- a clause: its class, its name's slot, its suite -/
structure Clause where
  c : Value
  n : Option Nat
  ts : Addr → Value → Option Addr → TS
def wCl (K : PySem.W.Frag) (Wout : WX) (D : Ends) : List Clause → WX
  | [] => Wout
  | l :: r => fun cls d σ H => ∃ b, PySem.W.exmOne K cls l.c = some b ∧ (b = true → ∀ a, H a = none → l.ts a cls d (outOf l.n D) (intoS l.n a σ) H) ∧ (b = false → wCl K Wout D r cls d σ H)
/-- how a clause's name is written -/
def NameAt (X : Cx) : Option Str → Option Nat → Prop
  | none, none => True
  | some n, some i => X.N[i]? = some n ∧ X.env.kindOf n = some .local
  | _, _ => False
inductive Clauses (X : Cx) : List ExceptHandler → List Clause → Prop
  | nil : Clauses X [] []
  | cons {x : Str} {n : Option Str} {l : Clause} {b₀ : Stmt} {suite : List Stmt} {np pos' : Pos} {hds : List ExceptHandler} {ls : List Clause} (hc : Names X x l.c) (hn : NameAt X n l.n)
      (hsu : ∀ (a : Addr) (oe : Obj) (cls : Value) (d : Option Addr) (pn : List (Addr × Obj)), Zc cls d oe → (∃ vs, oe.data = .fields vs) → PSs (X.suite a ((a, oe) :: pn)) (b₀ :: suite) (l.ts a cls d)) (r : Clauses X hds ls) :
      Clauses X (.ExceptHandler (some (.Name x np)) n (b₀ :: suite) pos' :: hds) (l :: ls)
section
variable {X : Cx} {body : List Stmt} {h₀ : ExceptHandler} {hds : List ExceptHandler} {ls : List Clause} {pos : Pos} {tb : WX → TS} {Wout : WX}
theorem sp_flow {pins : List (Addr × Obj)} {D : Ends} {f : Flow} {s1 : Shared} {pn : List (Addr × Obj)} {xe : Value → Shared → Prop} (ok : X.Ok) (h : SP (X.tr (X.pn ++ pins) xe) [] D f s1) : SP X pins D f s1 := by
  cases f with
  | next => exact let ⟨σ, H, J, q⟩ := h; ⟨σ, H, J.ofTry ok, q⟩
  | brk => exact let ⟨σ, H, J, q⟩ := h; ⟨σ, H, J.ofTry ok, q⟩
  | cont => exact let ⟨σ, H, J, q⟩ := h; ⟨σ, H, J.ofTry ok, q⟩
  | ret u => exact let ⟨v, σ, H, J, r, q⟩ := h; ⟨v, σ, H, J.ofTry ok, r, q⟩
theorem sp_un {pins : List (Addr × Obj)} {D : Ends} {f : Flow} {s1 : Shared} {a : Addr} {oe : Obj} (ok : X.Ok) (h : SP (X.suite a ((a, oe) :: (X.pn ++ pins))) [] D f s1) : SP X pins D f s1 := by
  cases f with
  | next => exact let ⟨σ, H, J, q⟩ := h; ⟨σ, H, J.unsuite ok, q⟩
  | brk => exact let ⟨σ, H, J, q⟩ := h; ⟨σ, H, J.unsuite ok, q⟩
  | cont => exact let ⟨σ, H, J, q⟩ := h; ⟨σ, H, J.unsuite ok, q⟩
  | ret u => exact let ⟨v, σ, H, J, r, q⟩ := h; ⟨v, σ, H, J.unsuite ok, r, q⟩
/-- the exception at a has landed: the clauses are asked in turn -/
theorem clauses_ok {pins : List (Addr × Obj)} {σ' : L2.St} {H' : Hp} {sI s' : Shared} {B h3 : Heap} {a : Addr} {cls : Value} {d : Option Addr} {D : Ends} (hst : X.stack = X.env :: X.outer) (hf : X.env.frame = some X.env.locals) (hN : X.N.Nodup) (tk : Takes X Wout)
    (J : Inv X pins σ' H' sI) (nb : ∀ b o, sI.heap.get? b = some o → b ∉ frs X.stack → B.get? b = some o) (up3 : sI.heap.UpToSlots h3) (fl3 : HandSPX.FlyingZ B (X.env :: X.outer) a (Zc cls d) h3) (na : H' a = none) (os : s'.os = sI.os) (ag : AllBare s'.gens) :
    ∀ {hds : List ExceptHandler} {ls : List Clause}, Clauses X hds ls → wCl X.K Wout D ls cls d σ' H' → wpAny (model X.prog X.w) X.A (handleBy (.ref a) X.env hds) (SP X pins D) X.xe { s' with heap := h3 } := by
  have ok := J.ok
  have J3 : Inv X pins σ' H' { s' with heap := h3 } := J.landed nb fl3.1 up3 os ag
  obtain ⟨oe3, vs3, he3, hz3, hd3⟩ := fl3.there
  have nfr : a ∉ frs (X.env :: X.outer) := fun hm => by
    obtain ⟨_, o, e, hno⟩ := fl3.2.2.1.mem hm
    rw [he3] at e
    cases e
    exact hno _ hd3
  have nL : a ≠ X.env.locals := fun z => nfr (List.mem_filterMap.mpr ⟨X.env, List.mem_cons_self, by rw [hf, z]⟩)
  have nF : a ∉ X.fs := fun hm => by
    obtain ⟨e, he, q⟩ := List.mem_filterMap.mp hm
    exact nfr (List.mem_filterMap.mpr ⟨e, List.mem_cons_of_mem _ he, q⟩)
  have S3 := J3.suite he3 hd3 na nL nF
  intro hds ls hk
  induction hk with
  | nil =>
    intro w
    refine wpAny_handleBy_nil ?_
    obtain ⟨k1, k2, k3, oe, vs, TT, oT, ts', he, hz, hd, h1, hr⟩ := _root_.id fl3
    unfold PySem.passOn
    refine wpAny_bind (wpAny_field he hd h1 ?_)
    rw [if_neg (show ¬ ((Value.ref TT == Value.none) = true) from by simp)]
    have fin : wpAny (model X.prog X.w) X.A (setFlight (.ref a) X.env.frame) (fun _ s4 => wpAny (model X.prog X.w) X.A (throw (.ref a) : Sem Flow) (SP X pins D) X.xe s4) X.xe { s' with heap := h3 } := by
      rw [hf]
      refine HandSPX.setFlight_upZ fl3 fun h4 hh4 up4 => wpAny_throw (tk _ _ ?_)
      exact ⟨a, B, sI, pins, σ', H', cls, d, rfl, J, nb, up3.trans up4, .inr (.inr (by rw [hst]; exact hh4)), na, os, ag, w⟩
    first
      | exact wpAny_bind (wpAny_pure (wpAny_bind fin))
      | exact wpAny_bind fin
  | @cons x n l b₀ suite np pos' hds2 ls2 hc hn hsu r ih =>
    intro w
    obtain ⟨b, hb1, hyes, hno⟩ := w
    refine wpAny_handleBy_cons (codeAny_handlers_test ?_) (by intro q; cases q)
    have LT : PySem.W.Looks (model X.prog X.w) h3 (typeOf (.ref a)) cls := fun A Q E s k q => wpAny_typeOf_ref (k _ _ he3) (by rw [hz3.1]; exact q)
    have LM := PySem.W.exm_one (M := model X.prog X.w) (J3.kIn) LT hb1
    have look : ∀ {Q : Value → Shared → Prop} {E : Value → Shared → Prop}, Q l.c { s' with heap := h3 } → wpAny (model X.prog X.w) (X.A.mark (some (.ref a))) (eval (.Name x np) X.env) Q E { s' with heap := h3 } := fun {Q E} q => by
      obtain ⟨hg, hdbg, hm | ⟨hm, hv, hnn⟩⟩ := hc
      · exact ld_glob (X := X.suite a ((a, oe3) :: (X.pn ++ pins))) S3 hg hm q hdbg
      · exact ld_blt (X := X.suite a ((a, oe3) :: (X.pn ++ pins))) S3 hg hm hv q hnn hdbg
    refine look (LM.here ?_)
    cases b with
    | false =>
      show wpAny _ X.A (handleBy (.ref a) X.env hds2) _ _ _
      exact ih (hno rfl)
    | true =>
      have body := hyes rfl a na
      obtain ⟨lc, ln, lts⟩ := l
      cases n with
      | none =>
        cases ln with
        | some i => exact hn.elim
        | none =>
          refine codeAny_handlers_suite ?_
          refine HandSPX.lands_againZ fl3 fun h4 fl4 up4 => ?_
          have J4 : Inv X pins σ' H' { s' with heap := h4 } := J.landed nb fl4.1 (up3.trans up4) os ag
          obtain ⟨oe4, vs4, he4, hz4, hd4⟩ := fl4.there
          have S4 := J4.suite he4 hd4 na nL nF
          exact wpAny_mono ((hsu a oe4 cls d (X.pn ++ pins) hz4 ⟨_, hd4⟩).run [] _ _ H' _ S4 body) (fun f s6 hsp => sp_un ok hsp) (fun _ _ z => False.elim z)
      | some n =>
        cases ln with
        | none => exact hn.elim
        | some i =>
          obtain ⟨hi, hln⟩ := hn
          refine codeAny_handlers_suite_as ?_
          refine HandSPX.lands_againZ fl3 fun h4 fl4 up4 => ?_
          have J4 : Inv X pins σ' H' { s' with heap := h4 } := J.landed nb fl4.1 (up3.trans up4) os ag
          obtain ⟨oe4, vs4, he4, hz4, hd4⟩ := fl4.there
          have S4 := J4.suite he4 hd4 na nL nF
          refine store_ok (X := X.suite a ((a, oe4) :: (X.pn ++ pins))) (v := .ref a) S4 hN hi (.inl hln) rfl (fun s5 S5 => ?_) (.inr hln)
          refine wpAny_mono ((hsu a oe4 cls d (X.pn ++ pins) hz4 ⟨_, hd4⟩).run [] s5 _ H' _ S5 body) (fun f s6 hsp => ?_) (fun _ _ z => False.elim z)
          have gone : ∀ {σ6 : L2.St} {H6 : Hp} {Q : Shared → Prop}, Inv (X.suite a ((a, oe4) :: (X.pn ++ pins))) [] σ6 H6 s6 → (∀ s7, Inv X pins (σ6.set i none) H6 s7 → Q s7) →
              wpAny (model X.prog X.w) X.A (do bindName X.env n .none; unbindBehindTheSuite X.env n pos') (fun _ s7 => Q s7) X.xe s6 := fun {σ6 H6 Q} S6 hq => gone_ok (S6.unsuite ok) hN hi hln hq
          cases f with
          | next => exact let ⟨σ6, H6, S6, q6⟩ := hsp; gone S6 fun s7 J7 => ⟨_, _, J7, q6⟩
          | brk => exact let ⟨σ6, H6, S6, q6⟩ := hsp; gone S6 fun s7 J7 => ⟨_, _, J7, q6⟩
          | cont => exact let ⟨σ6, H6, S6, q6⟩ := hsp; gone S6 fun s7 J7 => ⟨_, _, J7, q6⟩
          | ret u => exact let ⟨v6, σ6, H6, S6, r6, q6⟩ := hsp; gone S6 fun s7 J7 => ⟨_, _, _, J7, r6, q6⟩
theorem ps_clauses (hst : X.stack = X.env :: X.outer) (hf : X.env.frame = some X.env.locals) (hN : X.N.Nodup) (tk : Takes X Wout)
    (hb : ∀ (W : WX) (pn : List (Addr × Obj)) (xe : Value → Shared → Prop), Takes (X.tr pn xe) W → PassesOwn (model X.prog X.w) X.A X.env xe → PSs (X.tr pn xe) body (tb W))
    (hh : Clauses X (h₀ :: hds) ls) : PS X (.Try body (h₀ :: hds) [] [] pos) (fun D σ H => tb (wCl X.K Wout D ls) D σ H) := by
  refine ⟨fun pins s σ H D I h => ?_⟩
  have ok := I.ok
  have hfr : X.A.frames = some (X.env :: X.outer) := by rw [ok.frames, hst]
  refine wpAny_Try_except ?_
  refine wpAny_mono ((hb (wCl X.K Wout D ls) (X.pn ++ pins) (fun e s₁ => wpAny (model X.prog X.w) X.A (noteFrame e X.env) (fun _ s₂ => wpAny (model X.prog X.w) X.A (setFlight e none) (fun _ s₃ =>
    wpAny (model X.prog X.w) X.A (handleBy e X.env (h₀ :: hds)) (SP X pins D) X.xe s₃) X.xe s₂) X.xe s₁) (fun u s' xx => ?_) PassesOwn.looking).run [] s σ H D (I.toTry _) h) (fun f s1 hsp => ?_) (fun e s1 he => he)
  · obtain ⟨a, B, sI, pins', σ', H', cls, d, rfl, J', nb, up, sky, na, os, ag, w⟩ := xx
    have J : Inv X pins σ' H' sI := J'.ofTry ok
    rw [show (X.tr (X.pn ++ pins) _).stack = X.env :: X.outer from hst] at sky
    refine Sky.land Zc.steady hfr hf sky fun h3 fl3 up3 => ?_
    exact clauses_ok hst hf hN tk J nb (up.trans up3) fl3 na os ag hh w
  · have hsp' : SP X pins D f s1 := sp_flow (pn := []) ok hsp
    cases f with
    | next => exact wpAny_execs_nil hsp'
    | brk => exact hsp'
    | cont => exact hsp'
    | ret u => exact hsp'
end
end Mch

/-! ## Raising, catching, several names at once, comprehensions stored -/
namespace Mch
open PySem PySem.Spec PyProof.Rows L2
/-- what the head says of the classes of exceptions -/
structure ExcG (g : Glob) : Prop where
  exm : ∀ c d C D Cl Dl, g.cA c = some C → g.cA d = some D → g.P.clss[c]? = some Cl → g.P.clss[d]? = some Dl → Cl.exc = true → Dl.exc = true → PySem.W.exmOne g.K (.ref C) (.ref D) = some (decide (d ∈ Cl.up))
  fld : ∀ c C Cl, g.cA c = some C → g.P.clss[c]? = some Cl → Cl.exc = true → XfC g.K C ∧ ∀ f ∈ Cl.fields, PySem.W.findIn g.K (.ref C) f = some none
  own : ∀ c C Cl, g.cA c = some C → g.P.clss[c]? = some Cl → Cl.exc = true → PySem.W.keepIn g.K (.ref C) = true ∧ PySem.W.subIn g.K (.ref C) (.type "BaseException") = some true ∧ PySem.W.typeIn g.K (.ref C) = some (.type "type")
  new : ∀ c C Cl, g.cA c = some C → g.P.clss[c]? = some Cl → Cl.exc = true → Cl.fields = [] → PySem.W.excIn g.K C He.veBase "ValueError.__new__" = true
section
variable {X : Cx} {g : Glob} {T : Tab} {W : WX} {md : Md} {pos : Pos} {e c : PySem.Expr} {A C : E} {a b : List Stmt} {Ab Bb : List S}
/-! ### raise X('..') -/
theorem sp_raise0 {x m : Str} {j ci : Nat} {Ca : Addr} {Cl : ClsM} {p p2 pos' : Pos} (hc : X.calm = true) (tk : Takes X W) (hE : ExcG g) (hT : T.P = g.P) (hK : g.K = X.K) (hA : g.cA ci = some Ca) (hl : g.P.clss[ci]? = some Cl) (hx : Cl.exc = true) (hf : Cl.fields = [])
    (hg : Gl X x) (hm : X.mg x = some (.ref Ca)) (hdb : (x == ("__debug__" : Str)) = false) :
    PS X (.Raise (some (.Call (.Name x p) [.Constant (.str m) j p2] [] pos')) none pos) (tR g W md (evS T (.raise ci [.str m]))) := by
  obtain ⟨h1, h2, h3⟩ := hE.own ci Ca Cl hA hl hx
  have h4 := hE.new ci Ca Cl hA hl hx hf
  rw [hK] at h1 h2 h3 h4
  refine ⟨fun pins s σ H D I h => (ps_raise hc tk (pmk_own PySem.F.excBase_ValueError h4 hm h1 (raises_own h2 h3) hg hdb)).run pins s σ H D I ?_⟩
  obtain ⟨φ, G, μ, σm, sb, r, st, h⟩ := h
  simp only [evS, evEs, evE, R.bind, R.stm] at h
  have hmk : mkX T.P ci [.str m] = some ⟨ci, []⟩ := by
    unfold mkX
    rw [hT, hl]
    simp only [hf]
  rw [hmk] at h
  exact h φ G H σ (Ext.refl sb) r st _ _ ⟨Ca, Cl, hA, hl, rfl, .inl ⟨rfl, hf, rfl⟩⟩
/-! ### the exception's field in a suite -/
theorem sx_fld {i : Nat} {f n : Str} {p : Pos} {aa : Addr} {oe : Obj} {cls : Value} {d : Option Addr} {pn : List (Addr × Obj)} (hE : ExcG g) (hT : T.P = g.P) (hK : g.K = X.K) (hz : Zc cls d oe) (hf : ∃ vs, oe.data = .fields vs)
    (he : PE (X.suite aa ((aa, oe) :: pn)) (.Name n p) (tVar i)) : PE (X.suite aa ((aa, oe) :: pn)) (.Attribute (.Name n p) f pos) (tE g T W0 (.exc i aa cls d) (.xfld i f)) := by
  refine ⟨fun pins s σ H Q I h => ?_⟩
  obtain ⟨φ, G, μ, σm, sb, r, st, h⟩ := h
  obtain ⟨c, vs, h1, h2, C, Cl, h3, h4, h5, h6⟩ := st.self
  simp only [evE, h2] at h
  obtain ⟨z, hzz, q⟩ := Good.opt h sb r
  rw [hT] at hzz
  have h4' : g.P.clss[c]? = some Cl := h4
  rw [h4'] at hzz
  simp only [Option.bind_some] at hzz
  split at hzz
  · cases hzz
  · rename_i hex
    obtain ⟨jj, e1, e2⟩ := Option.bind_eq_some_iff.mp hzz
    rcases h6 with ⟨h7, h8, h9⟩ | ⟨dd, fs, h7, h8, h9, h10, h11⟩
    · rw [h8] at e1
      cases e1
    · have hex' : Cl.exc = true := by simpa using hex
      obtain ⟨x1, x2⟩ := hE.fld c C Cl h3 h4 hex'
      obtain ⟨u, e3, e4⟩ := h11.get e2
      rw [← h10] at e1
      have hff : f ∈ Cl.fields := by
        rw [← h10]
        exact List.isSome_idxOf?.mp (by rw [e1]; rfl)
      have x3 := x2 f hff
      rw [hK] at x1 x3
      refine (pe_xf x1 x3 hz hf he).run pins s σ H Q I ⟨.ref aa, h1, rfl, h5, dd, fs, u, h7, h8, idx_lookup e1 e3, q u e4⟩
/-! ### two, three names at once -/
def swK (sc : Scope) (ts vs : List PySem.Expr) : Option (Option (List Str)) :=
  if (!(ts.length == 2 || ts.length == 3) || vs.length != ts.length) = true then some none
  else if (vs.any fun | .Starred .. => true | _ => false) = true then some none
  else
    let line := (ts.head?.map (·.pos.line)).getD 0
    let names := ts.filterMap fun
      | .Name id pos => if sc.names.lookup id == some .local && pos.line == line then some id else none
      | _ => none
    if (names.length != ts.length || names.eraseDups.length != names.length) = true then some none
    else if vs.all (foldedForSure 8) = true then some none
    else if vs.all (constantsAlone 8) = true then none
    else some (some names)
theorem swK_ok {sc : Scope} {ts vs : List PySem.Expr} {r : Option (List Str)} {env : PySem.Env} {k k2 : Nat} {p p2 : Pos} (hs : env.scope = sc) (hb : env.blockKind = .function) (h : swK sc ts vs = some r) : swappedStores [.Tuple ts k p] (.Tuple vs k2 p2) env = pure r := by
  subst hs
  unfold swK at h
  unfold swappedStores
  have e0 : (ScopeKind.function != ScopeKind.function) = false := by decide
  by_cases c1 : (!(ts.length == 2 || ts.length == 3) || vs.length != ts.length) = true
  · rw [if_pos c1] at h
    cases h
    exact if_pos (by rw [hb, e0, Bool.or_false]; exact c1)
  rw [if_neg c1] at h
  refine Eq.trans (if_neg (by rw [hb, e0, Bool.or_false]; exact c1)) ?_
  split at h
  · rename_i c2
    cases h
    exact if_pos c2
  rename_i c2
  refine Eq.trans (if_neg c2) ?_
  simp only at h
  split at h
  · rename_i c3
    cases h
    exact if_pos c3
  rename_i c3
  refine Eq.trans (if_neg c3) ?_
  split at h
  · rename_i c4
    cases h
    exact if_pos c4
  rename_i c4
  refine Eq.trans (if_neg c4) ?_
  split at h
  · cases h
  rename_i c5
  cases h
  exact if_neg c5
/-! ### two, three at once -/
theorem evEs2 {σm : Env} {μ : Mem} {A B : E} {as : List MV} {μ1 : Mem} (h : evEs T [A, B] σm μ = .ok as μ1) : ∃ x y, as = [x, y] := by
  have hl := evEs_len h
  match as, hl with
  | [x, y], _ => exact ⟨x, y, rfl⟩
theorem evEs3 {σm : Env} {μ : Mem} {A B C : E} {as : List MV} {μ1 : Mem} (h : evEs T [A, B, C] σm μ = .ok as μ1) : ∃ x y z, as = [x, y, z] := by
  have hl := evEs_len h
  match as, hl with
  | [x, y, z], _ => exact ⟨x, y, z, rfl⟩
theorem sp_par2 {i j : Nat} {x y : Str} {a b : PySem.Expr} {A B : E} {px py pt : Pos} {kt k2 pt2} (hc : X.calm = true) (hN : X.N.Nodup) (hi : X.N[i]? = some x) (hj : X.N[j]? = some y) (hij : i ≠ j) (h1 : md.ex i = false) (h2 : md.ex j = false)
    (hx : X.env.scope.names.lookup x = some .local) (hy : X.env.scope.names.lookup y = some .local) (ha : PA X [a, b] (tEs g T W md [A, B]))
    (hw : swappedStores [.Tuple [.Name x px, .Name y py] kt pt] (.Tuple [a, b] k2 pt2) X.env = pure (some [x, y])) :
    PS X (.Assign [.Tuple [.Name x px, .Name y py] kt pt] (.Tuple [a, b] k2 pt2) pos) (tR g W md (evS T (.asg (.tup [.var i, .var j]) (.tup [A, B])))) := by
  refine ⟨fun pins s σ H D I h => (ps_par hc hN hi hj hij hx hy ha hw).run pins s σ H D I ?_⟩
  obtain ⟨φ, G, μ, σm, sb, r, st, h⟩ := h
  simp only [evS, evE] at h
  refine ⟨φ, G, μ, σm, sb, r, st, ?_⟩
  cases e0 : evEs T [A, B] σm μ with
  | no => rw [e0] at h; exact h
  | exc x' μ1 => rw [e0] at h; exact fun φ1 G1 H1 e1 r1 => h φ1 G1 H1 σ e1.weak r1 (st.ext e1)
  | ok xs μ1 =>
    obtain ⟨u, v, rfl⟩ := evEs2 e0
    rw [e0] at h
    have hz : newT [u, v] μ1 = .ok (.tup [u, v]) μ1 := if_pos (by show 2 ≤ sizeLine; decide)
    simp only [R.bind, hz, R.stm, asgT, asgT.go, List.length_cons, List.length_nil, if_true, R.calm] at h
    intro φ1 G1 H1 e1 r1 ws hws
    obtain ⟨w1, w2, rfl, q1, q2⟩ := hws.two
    exact ⟨w1, w2, rfl, h φ1 G1 H1 _ e1.weak r1 (((st.ext e1).set q1 h1).set q2 h2)⟩
theorem RVs.three {φ : List Addr} {G : Hp} {x y z : MV} {vs : List V} (h : RVs g φ G [x, y, z] vs) : ∃ u v w, vs = [u, v, w] ∧ RV g φ G x u ∧ RV g φ G y v ∧ RV g φ G z w := by
  simp only [RVs] at h
  obtain ⟨v, r, rfl, h1, w, r, rfl, h2, u, r, rfl, h3, rfl⟩ := h
  exact ⟨v, w, u, rfl, h1, h2, h3⟩
theorem sp_par3 {i j l : Nat} {x y z : Str} {a b c : PySem.Expr} {A B C : E} {px py pz pt : Pos} {kt k2 pt2} (hc : X.calm = true) (hN : X.N.Nodup) (hi : X.N[i]? = some x) (hj : X.N[j]? = some y) (hl : X.N[l]? = some z) (hij : i ≠ j) (hil : i ≠ l) (hjl : j ≠ l) (h1 : md.ex i = false) (h2 : md.ex j = false) (h3 : md.ex l = false)
    (hx : X.env.scope.names.lookup x = some .local) (hy : X.env.scope.names.lookup y = some .local) (hz : X.env.scope.names.lookup z = some .local) (ha : PA X [a, b, c] (tEs g T W md [A, B, C]))
    (hw : swappedStores [.Tuple [.Name x px, .Name y py, .Name z pz] kt pt] (.Tuple [a, b, c] k2 pt2) X.env = pure (some [x, y, z])) :
    PS X (.Assign [.Tuple [.Name x px, .Name y py, .Name z pz] kt pt] (.Tuple [a, b, c] k2 pt2) pos) (tR g W md (evS T (.asg (.tup [.var i, .var j, .var l]) (.tup [A, B, C])))) := by
  refine ⟨fun pins s σ H D I h => (ps_par3 hc hN hi hj hl hij hil hjl hx hy hz ha hw).run pins s σ H D I ?_⟩
  obtain ⟨φ, G, μ, σm, sb, r, st, h⟩ := h
  simp only [evS, evE] at h
  refine ⟨φ, G, μ, σm, sb, r, st, ?_⟩
  cases e0 : evEs T [A, B, C] σm μ with
  | no => rw [e0] at h; exact h
  | exc x' μ1 => rw [e0] at h; exact fun φ1 G1 H1 e1 r1 => h φ1 G1 H1 σ e1.weak r1 (st.ext e1)
  | ok xs μ1 =>
    obtain ⟨u, v, w, rfl⟩ := evEs3 e0
    rw [e0] at h
    have hz : newT [u, v, w] μ1 = .ok (.tup [u, v, w]) μ1 := if_pos (by show 3 ≤ sizeLine; decide)
    simp only [R.bind, hz, R.stm, asgT, asgT.go, List.length_cons, List.length_nil, if_true, R.calm] at h
    intro φ1 G1 H1 e1 r1 ws hws
    obtain ⟨w1, w2, w3, rfl, q1, q2, q3⟩ := hws.three
    exact ⟨w1, w2, w3, rfl, h φ1 G1 H1 _ e1.weak r1 ((((st.ext e1).set q1 h1).set q2 h2).set q3 h3)⟩
/-! ### comprehensions -/
section
variable {elt tg iter tg1 iter1 : PySem.Expr} {ifs ifs1 : List PySem.Expr} {scope : Scope} {own : List (Str × Nat)} {vs1 : List Nat} {TG IT CD TG1 IT1 CD1 : E} {i : Nat} {y : Str} {py spos : Pos}
theorem se_comp (hc : X.calm = true) (hN : X.N.Nodup) (hmd : ∀ j a c d, md ≠ .exc j a c d) (hi : PI X tg iter (tI g T W md IT)) (ok : BlkOk X.N X.env.scope scope own) (hsl : ∀ i ∈ tgSlots TG, i ∈ own.map (·.2))
    (hg : ∀ (s : Shared) (H : Hp) (C : Addr) (cl : List (Str × Addr)) (fp : List Addr), PG (X.blk s H scope (compEnvC scope cl C X.env) fp) tg (gB g md.blk TG)) (ht : ∀ (s : Shared) (H : Hp) (C : Addr) (cl : List (Str × Addr)) (fp : List Addr), PTs (X.blk s H scope (compEnvC scope cl C X.env) fp) ifs (tT g T W0 md.blk CD))
    (he : ∀ (s : Shared) (H : Hp) (C : Addr) (cl : List (Str × Addr)) (fp : List Addr), PE (X.blk s H scope (compEnvC scope cl C X.env) fp) elt (tE g T W0 md.blk A)) (hs : notSet iter = true) :
    PE X (.ListComp elt [⟨tg, iter, ifs, 0⟩] scope pos) (tE g T W md (.comp A TG IT CD (own.map (·.2)))) :=
  ⟨fun pins s σ H Q I h => (pe_lc hc hN hi ok hg ht he (fold_of hs)).run pins s σ H Q I (comp_read hmd hsl h)⟩
theorem sp_setc (hc : X.calm = true) (hN : X.N.Nodup) (hmd : ∀ j a c d, md ≠ .exc j a c d) (hy : X.N[i]? = some y) (hyl : X.env.scope.names.lookup y = some .local) (hyi : md.ex i = false) (hsw : swapsWith (.ListComp elt [⟨tg, iter, ifs, 0⟩] scope pos) (some (.Name y py)) spos.line X.env = pure true)
    (hi : PI X tg iter (tI g T W md IT)) (ok : BlkOk X.N X.env.scope scope own) (hsl : ∀ i ∈ tgSlots TG, i ∈ own.map (·.2))
    (hg : ∀ (s : Shared) (H : Hp) (C : Addr) (cl : List (Str × Addr)) (fp : List Addr), PG (X.blk s H scope (compEnvC scope cl C X.env) fp) tg (gB g md.blk TG)) (ht : ∀ (s : Shared) (H : Hp) (C : Addr) (cl : List (Str × Addr)) (fp : List Addr), PTs (X.blk s H scope (compEnvC scope cl C X.env) fp) ifs (tT g T W0 md.blk CD))
    (he : ∀ (s : Shared) (H : Hp) (C : Addr) (cl : List (Str × Addr)) (fp : List Addr), PE (X.blk s H scope (compEnvC scope cl C X.env) fp) elt (tE g T W0 md.blk A)) (hs : notSet iter = true) :
    PS X (.Assign [.Name y py] (.ListComp elt [⟨tg, iter, ifs, 0⟩] scope pos) spos) (tR g W md (evS T (.asg (.var i) (.comp A TG IT CD (own.map (·.2)))))) := by
  refine ⟨fun pins s σ H D I h => (ps_setLc hc hN hy hyl hsw hi ok hg ht he (fold_of hs)).run pins s σ H D I (comp_read hmd hsl ?_)⟩
  obtain ⟨φ, G, μ, σm, sb, r, st, h⟩ := h
  simp only [evS, asgT] at h
  exact ⟨φ, G, μ, σm, sb, r, st, (h.stm st).imp fun v μ1 φ1 G1 H1 e1 r1 k w hw => k φ1 G1 H1 _ (Ext.refl e1.sub) r1 ((st.ext e1).set hw hyi)⟩
theorem se_comp2 (hc : X.calm = true) (hN : X.N.Nodup) (hmd : ∀ j a c d, md ≠ .exc j a c d) (hi : PI X tg iter (tI g T W md IT)) (ok : BlkOk X.N X.env.scope scope own) (hv : ∀ i ∈ vs1, i ∈ own.map (·.2)) (hsl : ∀ i ∈ tgSlots TG, i ∈ own.map (·.2)) (hsl1 : ∀ i ∈ tgSlots TG1, i ∈ vs1)
    (hg : ∀ (s : Shared) (H : Hp) (C : Addr) (cl : List (Str × Addr)) (fp : List Addr), PG (X.blk s H scope (compEnvC scope cl C X.env) fp) tg (gB g md.blk TG)) (ht : ∀ (s : Shared) (H : Hp) (C : Addr) (cl : List (Str × Addr)) (fp : List Addr), PTs (X.blk s H scope (compEnvC scope cl C X.env) fp) ifs (tT g T W0 md.blk CD))
    (hi1 : ∀ (s : Shared) (H : Hp) (C : Addr) (cl : List (Str × Addr)) (fp : List Addr), PI (X.blk s H scope (compEnvC scope cl C X.env) fp) tg1 iter1 (tI g T W0 md.blk IT1))
    (hg1 : ∀ (s : Shared) (H : Hp) (C : Addr) (cl : List (Str × Addr)) (fp : List Addr), PG (X.blk s H scope (compEnvC scope cl C X.env) fp) tg1 (gB g md.blk TG1)) (ht1 : ∀ (s : Shared) (H : Hp) (C : Addr) (cl : List (Str × Addr)) (fp : List Addr), PTs (X.blk s H scope (compEnvC scope cl C X.env) fp) ifs1 (tT g T W0 md.blk CD1))
    (he : ∀ (s : Shared) (H : Hp) (C : Addr) (cl : List (Str × Addr)) (fp : List Addr), PE (X.blk s H scope (compEnvC scope cl C X.env) fp) elt (tE g T W0 md.blk A)) (hs : notSet iter = true) (hs1 : notSet iter1 = true) :
    PE X (.ListComp elt [⟨tg, iter, ifs, 0⟩, ⟨tg1, iter1, ifs1, 0⟩] scope pos) (tE g T W md (.comp2 A TG IT CD TG1 IT1 CD1 (own.map (·.2)) vs1)) :=
  ⟨fun pins s σ H Q I h => (pe_lc2 hc hN hi ok hv hg ht hi1 hg1 ht1 he (fold_of hs) (fun env x => fold_of hs1 x)).run pins s σ H Q I (comp2_read hmd hsl hsl1 h)⟩
theorem sp_setc2 (hc : X.calm = true) (hN : X.N.Nodup) (hmd : ∀ j a c d, md ≠ .exc j a c d) (hy : X.N[i]? = some y) (hyl : X.env.scope.names.lookup y = some .local) (hyi : md.ex i = false) (hsw : swapsWith (.ListComp elt [⟨tg, iter, ifs, 0⟩, ⟨tg1, iter1, ifs1, 0⟩] scope pos) (some (.Name y py)) spos.line X.env = pure true)
    (hi : PI X tg iter (tI g T W md IT)) (ok : BlkOk X.N X.env.scope scope own) (hv : ∀ i ∈ vs1, i ∈ own.map (·.2)) (hsl : ∀ i ∈ tgSlots TG, i ∈ own.map (·.2)) (hsl1 : ∀ i ∈ tgSlots TG1, i ∈ vs1)
    (hg : ∀ (s : Shared) (H : Hp) (C : Addr) (cl : List (Str × Addr)) (fp : List Addr), PG (X.blk s H scope (compEnvC scope cl C X.env) fp) tg (gB g md.blk TG)) (ht : ∀ (s : Shared) (H : Hp) (C : Addr) (cl : List (Str × Addr)) (fp : List Addr), PTs (X.blk s H scope (compEnvC scope cl C X.env) fp) ifs (tT g T W0 md.blk CD))
    (hi1 : ∀ (s : Shared) (H : Hp) (C : Addr) (cl : List (Str × Addr)) (fp : List Addr), PI (X.blk s H scope (compEnvC scope cl C X.env) fp) tg1 iter1 (tI g T W0 md.blk IT1))
    (hg1 : ∀ (s : Shared) (H : Hp) (C : Addr) (cl : List (Str × Addr)) (fp : List Addr), PG (X.blk s H scope (compEnvC scope cl C X.env) fp) tg1 (gB g md.blk TG1)) (ht1 : ∀ (s : Shared) (H : Hp) (C : Addr) (cl : List (Str × Addr)) (fp : List Addr), PTs (X.blk s H scope (compEnvC scope cl C X.env) fp) ifs1 (tT g T W0 md.blk CD1))
    (he : ∀ (s : Shared) (H : Hp) (C : Addr) (cl : List (Str × Addr)) (fp : List Addr), PE (X.blk s H scope (compEnvC scope cl C X.env) fp) elt (tE g T W0 md.blk A)) (hs : notSet iter = true) (hs1 : notSet iter1 = true) :
    PS X (.Assign [.Name y py] (.ListComp elt [⟨tg, iter, ifs, 0⟩, ⟨tg1, iter1, ifs1, 0⟩] scope pos) spos) (tR g W md (evS T (.asg (.var i) (.comp2 A TG IT CD TG1 IT1 CD1 (own.map (·.2)) vs1)))) := by
  refine ⟨fun pins s σ H D I h => (ps_setLc2 hc hN hy hyl hsw hi ok hv hg ht hi1 hg1 ht1 he (fold_of hs) (fun env x => fold_of hs1 x)).run pins s σ H D I (comp2_read hmd hsl hsl1 ?_)⟩
  obtain ⟨φ, G, μ, σm, sb, r, st, h⟩ := h
  simp only [evS, asgT] at h
  exact ⟨φ, G, μ, σm, sb, r, st, (h.stm st).imp fun v μ1 φ1 G1 H1 e1 r1 k w hw => k φ1 G1 H1 _ (Ext.refl e1.sub) r1 ((st.ext e1).set hw hyi)⟩
end
/-- does the comprehension's store come within its block -/
def swpB (sc scope : Scope) (y : Str) (py pos : Pos) : Bool := sc.names.lookup y == some .local && py.line == pos.line && !(scope.names.any fun (n, k) => n == y && (k == .local || k == .cell))
theorem swpB_ok {elt : PySem.Expr} {gs : List Comprehension} {scope : Scope} {y : Str} {py : Pos} {l : Nat} {env : PySem.Env} (hk : env.blockKind = .function) : swapsWith (.ListComp elt gs scope pos) (some (.Name y py)) l env = pure (swpB env.scope scope y py pos) := by
  unfold swapsWith swpB
  simp only [hk, Expr.pos, Env.kindOf]
  rfl
end
end Mch

/-! ## try: the machine's reading -/
namespace Mch
open PySem PySem.Spec PyProof.Rows L2
section
variable {X : Cx} {g : Glob} {T : Tab} {W : WX} {pos : Pos}
/-- the mode within a suite -/
def sMd (n : Option Nat) (a : Addr) (cls : Value) (d : Option Addr) : Md := match n with
  | none => .no
  | some i => .exc i a cls d
/-- a clause of the machine -/
def mCl (g : Glob) (T : Tab) (C : Addr) (n : Option Nat) (Hb : List S) : Clause := ⟨.ref C, n, fun a cls d => tR g W0 (sMd n a cls d) (evB T Hb)⟩
theorem calm_noX {r : RS} {D : Ends} {φ : List Addr} {G H : Hp} {md : Md} (h : GoodS g W md φ G H D r.calm) : ∀ W', GoodS g W' md φ G H D r := by
  intro W'
  cases r with
  | ok f μ => cases f <;> exact h
  | exc x σ μ => exact h.elim
  | no => exact h.elim
theorem suite_ok {n : Option Nat} {Hb : List S} {x : MX} {σ1 : Env} {σ : L2.St} {μ : Mem} {φ : List Addr} {G H : Hp} {D : Ends} {cls : Value} {d : Option Addr} (sb : Sub G H) (r : Rel g φ G μ) (st : RSt g φ G H .no σ1 σ) (hx : RX g φ G H x cls d)
    (h : GoodS g W .no φ G H D (suite n (evB T Hb) x σ1 μ).calm) (a : Addr) : tR g W0 (sMd n a cls d) (evB T Hb) (outOf n D) (intoS n a σ) H := by
  cases n with
  | none => exact ⟨φ, G, μ, σ1, sb, r, st, calm_noX h W0⟩
  | some i =>
    simp only [suite] at h
    split at h
    · exact h.elim
    · rename_i hi
      have hi' : i < σ1.length := by omega
      have hi2 : i < σ.length := by rw [← st.env.1]; exact hi'
      refine ⟨φ, G, μ, σ1.set i (some (.exn x.c x.vs)), sb, r, ⟨⟨by simp [intoS, st.env.1], fun j v e1 e2 => ?_⟩, x.c, x.vs, ?_, ?_, hx⟩, ?_⟩
      · have ne : j ≠ i := by simpa [sMd, Md.ex] using e2
        rw [List.getElem?_set_ne (Ne.symm ne)] at e1
        show ∃ w, (σ.set i (some (.ref a)))[j]? = _ ∧ _
        rw [List.getElem?_set_ne (Ne.symm ne)]
        exact st.env.2 j v e1 rfl
      · show (σ.set i (some (.ref a)))[i]? = _
        rw [List.getElem?_set_self hi2]
      · rw [List.getElem?_set_self hi']
      · have back : ∀ {φ1 : List Addr} {G1 H1 : Hp} {σ2 : Env} {σ' : L2.St}, RSt g φ1 G1 H1 (sMd (some i) a cls d) σ2 σ' → RSt g φ1 G1 H1 .no (σ2.set i none) (σ'.set i none) := fun {φ1 G1 H1 σ2 σ'} s => by
          refine ⟨⟨by simp [s.env.1], fun j v e1 _ => ?_⟩, trivial⟩
          rw [List.getElem?_set] at e1
          split at e1
          · split at e1 <;> cases e1
          · rename_i ne
            rw [List.getElem?_set_ne ne]
            exact s.env.2 j v e1 (by simp [sMd, Md.ex]; exact fun z => ne z.symm)
        revert h
        cases evB T Hb (σ1.set i (some (.exn x.c x.vs))) μ with
        | no => intro h; exact h.elim
        | exc y σ2 μ2 => intro h; exact h.elim
        | ok f μ2 => cases f with
          | next σ2 => exact fun h φ1 G1 H1 σ' e r s => h φ1 G1 H1 _ e r (back s)
          | brk σ2 => exact fun h φ1 G1 H1 σ' e r s => h φ1 G1 H1 _ e r (back s)
          | cnt σ2 => exact fun h φ1 G1 H1 σ' e r s => h φ1 G1 H1 _ e r (back s)
          | ret v => exact fun h φ1 G1 H1 w e r s => h φ1 G1 H1 w e r s
/-- an exception against a clause -/
theorem isX_ok {x : MX} {c : Nat} {C : Addr} {Cl : ClsM} {b : Bool} {φ : List Addr} {G H : Hp} {cls : Value} {d : Option Addr} (hE : ExcG g) (hK : g.K = X.K) (hT : T.P = g.P) (hc : g.cA c = some C) (hl : g.P.clss[c]? = some Cl) (he : Cl.exc = true) (hx : RX g φ G H x cls d) (hb : isX T.P x c = some b) :
    PySem.W.exmOne X.K cls (.ref C) = some b := by
  obtain ⟨C', Cl', h1, h2, rfl, _⟩ := hx
  unfold isX at hb
  rw [hT, h2] at hb
  simp only at hb
  split at hb
  · rename_i e
    cases hb
    rw [← hK]
    exact hE.exm x.c c C' C Cl' Cl h1 hc h2 hl e he
  · cases hb
structure ClsAt (X : Cx) (g : Glob) (x : Str) (c : Nat) (C : Addr) : Prop where
  names : Names X x (.ref C)
  ca : g.cA c = some C
  cl : ∃ Cl, g.P.clss[c]? = some Cl ∧ Cl.exc = true
theorem sp_try1 {body : List Stmt} {Bb Hb : List S} {x : Str} {n : Option Str} {ni : Option Nat} {c : Nat} {C : Addr} {b₀ : Stmt} {su : List Stmt} {np pos' : Pos} (hst : X.stack = X.env :: X.outer) (hf : X.env.frame = some X.env.locals) (hN : X.N.Nodup) (tk : Takes X W) (hE : ExcG g) (hK : g.K = X.K) (hT : T.P = g.P)
    (hc : ClsAt X g x c C) (hn : NameAt X n ni)
    (hb : ∀ (W : WX) (pn : List (Addr × Obj)) (xe : Value → Shared → Prop), Takes (X.tr pn xe) W → PassesOwn (model X.prog X.w) X.A X.env xe → PSs (X.tr pn xe) body (tR g W .no (evB T Bb)))
    (hsu : ∀ (a : Addr) (oe : Obj) (cls : Value) (d : Option Addr) (pn : List (Addr × Obj)), Zc cls d oe → (∃ vs, oe.data = .fields vs) → PSs (X.suite a ((a, oe) :: pn)) (b₀ :: su) (tR g W0 (sMd ni a cls d) (evB T Hb))) :
    PS X (.Try body [.ExceptHandler (some (.Name x np)) n (b₀ :: su) pos'] [] [] pos) (tR g W .no (evS T (.try1 Bb c ni Hb))) := by
  refine ⟨fun pins s σ H D I h => (ps_clauses (tb := fun W => tR g W .no (evB T Bb)) (ls := [mCl g T C ni Hb]) hst hf hN tk hb (.cons (l := mCl g T C ni Hb) hc.names hn hsu .nil)).run pins s σ H D I ?_⟩
  obtain ⟨φ, G, μ, σm, sb, r, st, h⟩ := h
  refine ⟨φ, G, μ, σm, sb, r, st, ?_⟩
  simp only [evS] at h
  revert h
  cases evB T Bb σm μ with
  | ok f μ1 => intro h; cases f <;> exact h
  | no => intro h; exact h.elim
  | exc y σ1 μ1 =>
    intro h φ1 G1 H1 σ' e1 r1 s1 cls dd hx
    obtain ⟨Cl, hl, he⟩ := hc.cl
    simp only at h
    split at h
    · rename_i hb1
      refine ⟨true, isX_ok hE hK hT hc.ca hl he hx hb1, fun _ a _ => suite_ok e1.sub r1 s1 hx (GoodS.ext h e1) a, fun z => by cases z⟩
    · rename_i hb1
      exact ⟨false, isX_ok hE hK hT hc.ca hl he hx hb1, (fun z => by cases z), fun _ => h φ1 G1 H1 σ' e1 r1 s1 cls dd hx⟩
    · exact h.elim
theorem sp_try2 {body : List Stmt} {Bb Hb Hb2 : List S} {x x2 : Str} {n n2 : Option Str} {ni ni2 : Option Nat} {c c2 : Nat} {C C2 : Addr} {b₀ b₂ : Stmt} {su su2 : List Stmt} {np np2 pos' pos2 : Pos} (hst : X.stack = X.env :: X.outer) (hf : X.env.frame = some X.env.locals) (hN : X.N.Nodup) (tk : Takes X W) (hE : ExcG g) (hK : g.K = X.K) (hT : T.P = g.P)
    (hc : ClsAt X g x c C) (hn : NameAt X n ni) (hc2 : ClsAt X g x2 c2 C2) (hn2 : NameAt X n2 ni2)
    (hb : ∀ (W : WX) (pn : List (Addr × Obj)) (xe : Value → Shared → Prop), Takes (X.tr pn xe) W → PassesOwn (model X.prog X.w) X.A X.env xe → PSs (X.tr pn xe) body (tR g W .no (evB T Bb)))
    (hsu : ∀ (a : Addr) (oe : Obj) (cls : Value) (d : Option Addr) (pn : List (Addr × Obj)), Zc cls d oe → (∃ vs, oe.data = .fields vs) → PSs (X.suite a ((a, oe) :: pn)) (b₀ :: su) (tR g W0 (sMd ni a cls d) (evB T Hb)))
    (hsu2 : ∀ (a : Addr) (oe : Obj) (cls : Value) (d : Option Addr) (pn : List (Addr × Obj)), Zc cls d oe → (∃ vs, oe.data = .fields vs) → PSs (X.suite a ((a, oe) :: pn)) (b₂ :: su2) (tR g W0 (sMd ni2 a cls d) (evB T Hb2))) :
    PS X (.Try body [.ExceptHandler (some (.Name x np)) n (b₀ :: su) pos', .ExceptHandler (some (.Name x2 np2)) n2 (b₂ :: su2) pos2] [] [] pos) (tR g W .no (evS T (.try2 Bb c ni Hb c2 ni2 Hb2))) := by
  refine ⟨fun pins s σ H D I h => (ps_clauses (tb := fun W => tR g W .no (evB T Bb)) (ls := [mCl g T C ni Hb, mCl g T C2 ni2 Hb2]) hst hf hN tk hb (.cons (l := mCl g T C ni Hb) hc.names hn hsu (.cons (l := mCl g T C2 ni2 Hb2) hc2.names hn2 hsu2 .nil))).run pins s σ H D I ?_⟩
  obtain ⟨φ, G, μ, σm, sb, r, st, h⟩ := h
  refine ⟨φ, G, μ, σm, sb, r, st, ?_⟩
  simp only [evS] at h
  revert h
  cases evB T Bb σm μ with
  | ok f μ1 => intro h; cases f <;> exact h
  | no => intro h; exact h.elim
  | exc y σ1 μ1 =>
    intro h φ1 G1 H1 σ' e1 r1 s1 cls dd hx
    obtain ⟨Cl, hl, he⟩ := hc.cl
    obtain ⟨Cl2, hl2, he2⟩ := hc2.cl
    simp only at h
    split at h
    · rename_i hb1
      refine ⟨true, isX_ok hE hK hT hc.ca hl he hx hb1, fun _ a _ => suite_ok e1.sub r1 s1 hx (GoodS.ext h e1) a, fun z => by cases z⟩
    · rename_i hb1
      refine ⟨false, isX_ok hE hK hT hc.ca hl he hx hb1, (fun z => by cases z), fun _ => ?_⟩
      split at h
      · rename_i hb2
        refine ⟨true, isX_ok hE hK hT hc2.ca hl2 he2 hx hb2, fun _ a _ => suite_ok e1.sub r1 s1 hx (GoodS.ext h e1) a, fun z => by cases z⟩
      · rename_i hb2
        exact ⟨false, isX_ok hE hK hT hc2.ca hl2 he2 hx hb2, (fun z => by cases z), fun _ => h φ1 G1 H1 σ' e1 r1 s1 cls dd hx⟩
      · exact h.elim
    · exact h.elim
end
end Mch

/-! ## From the syntax to the machine's -/
namespace Mch
open PySem PySem.Spec PyProof.Rows L2
structure Cfg where
  N : List Str
  sc : Scope
  fn : Str → Bool := fun _ => true
  fns : List Str
  cls : List (Str × Nat)
  blts : List Str
  P : Prog
  xs : Option Nat := none
  exc : Bool := false
  calm : Bool := true
  stm : Bool := true
def mapO {α β : Type} (f : α → Option β) : List α → Option (List β)
  | [] => some []
  | a :: r => match f a, mapO f r with
    | some b, some bs => some (b :: bs)
    | _, _ => none
def ixOf (x : Str) : List Str → Option Nat
  | [] => none
  | y :: r => if y = x then some 0 else (ixOf x r).map (· + 1)
theorem ixOf_get {x : Str} : ∀ {l : List Str} {i : Nat}, ixOf x l = some i → l[i]? = some x
  | [], _, h => by cases h
  | y :: r, i, h => by
    unfold ixOf at h
    split at h
    · rename_i e
      cases h
      rw [e]
      rfl
    · obtain ⟨j, h1, rfl⟩ := Option.map_eq_some_iff.mp h
      rw [List.getElem?_cons_succ]
      exact ixOf_get h1
def isVis : Option NameKind → Bool
  | some .local => true
  | some .cell => true
  | some .free => true
  | _ => false
def slotOf (c : Cfg) (x : Str) : Option Nat := if isVis (c.sc.names.lookup x) && (!(x == "__debug__") && !(x == "__classdict__")) then ixOf x c.N else none
def varOf (c : Cfg) (x : Str) : Option Nat := match slotOf c x with
  | some i => if c.xs = some i then none else some i
  | none => none
def isGl (c : Cfg) (x : Str) : Bool := decide (c.sc.names.lookup x = some .globalImplicit) && (!(x == "__debug__") && !(x == ""))
def allBI : List BI := [.abs, .len, .all, .any, .int, .str, .tuple, .list, .sum, .min, .max]
def biOf (x : Str) : Option BI := allBI.find? fun b => biName b == x
def allMt : List Mt := [.append, .join]
def mtOf (x : Str) : Option Mt := allMt.find? fun m => mtName m == x
def tyOfN (x : Str) : Option TyR := [TyR.int, .bool, .str, .list, .tuple, .dict].find? fun t => tyName t == some x
/-! ### expressions -/
def cConst : Const → Option E
  | .int i => some (.int i)
  | .bool b => some (.bl b)
  | .none => some .non
  | .str s => some (.str s)
  | _ => none
def cName (c : Cfg) (x : Str) : Option E := match varOf c x with
  | some i => some (.var i)
  | none => if isGl c x then (ixOf x c.fns).map .fn else none
def cEs (rec : PySem.Expr → Option E) (es : List PySem.Expr) : Option (List E) := if es.all plain then mapO rec es else none
def cTy (c : Cfg) : PySem.Expr → Option TyR
  | .Name x _ => if isGl c x then (match c.cls.lookup x with
    | some j => some (.cls j)
    | none => if c.blts.contains x then tyOfN x else none) else none
  | _ => none
def cIsin (c : Cfg) (A : E) : PySem.Expr → Option E
  | .Name x p => (cTy c (.Name x p)).map fun t => .isin A [t]
  | .Tuple es _ _ => if decide (es.length ≤ 50) && !es.isEmpty then (mapO (cTy c) es).map fun ts => .isin A ts else none
  | _ => none
def cCallN (c : Cfg) (rec : PySem.Expr → Option E) (x : Str) (es : List PySem.Expr) : Option E := match varOf c x with
  | some i => (cEs rec es).map fun As => .callv i As
  | none => if isGl c x then (match ixOf x c.fns with
    | some f => (cEs rec es).map fun As => .call f As
    | none => if c.blts.contains x then (if x = "isinstance" then (match es with
        | [a, t] => if plain a then (rec a).bind fun A => cIsin c A t else none
        | _ => none) else match biOf x with
        | some b => if es.isEmpty then none else (cEs rec es).map fun As => .bi b As
        | none => none) else none) else none
def cCallA (rec : PySem.Expr → Option E) (o : PySem.Expr) (m : Str) (apos : Pos) (es : List PySem.Expr) (pos : Pos) : Option E := match mtOf m with
  | some mt => if notCall0 o && ((apos.endLine == pos.line) && (decide (es.length < 30) && !es.isEmpty)) then (match rec o, cEs rec es with
    | some O, some As => some (.mth mt O As)
    | _, _ => none) else none
  | none => none
def cCall (c : Cfg) (rec : PySem.Expr → Option E) (pos : Pos) (es : List PySem.Expr) : PySem.Expr → Option E
  | .Name x _ => if c.calm then cCallN c rec x es else none
  | .Attribute o m apos => cCallA rec o m apos es pos
  | _ => none
def cAttr (c : Cfg) (rec : PySem.Expr → Option E) (o : PySem.Expr) (f : Str) : Option E := if c.exc then (match o with
    | .Name n _ => (match slotOf c n with
      | some i => if c.xs = some i then some (.xfld i f) else none
      | none => none)
    | _ => none) else if notCall0 o then (rec o).map fun O => .fld O f else none
def cPart (rec : PySem.Expr → Option E) : Option PySem.Expr → Option E
  | none => some .non
  | some e => match rec e with
    | some A => if A.isNon then none else some A
    | none => none
def cSub (rec : PySem.Expr → Option E) (a : PySem.Expr) : PySem.Expr → Option E
  | .Slice lo hi st _ => if st.isNone then (match rec a, cPart rec lo, cPart rec hi with
    | some A, some L, some H => some (.slc A L H)
    | _, _, _ => none) else none
  | b => if notSlice b then (match rec a, rec b with
    | some A, some B => some (.idx A B)
    | _, _ => none) else none
def cCmp (rec : PySem.Expr → Option E) (a : PySem.Expr) : List CmpOp → List PySem.Expr → Option E
  | [op], [b] => if notSet b then (match rec a, rec b with
    | some A, some B => some (.cmp op A B)
    | _, _ => none) else none
  | [o1, o2], [b, d] => if notSet d then (match rec a, rec b, rec d with
    | some A, some B, some D => some (.cmp2 o1 o2 A B D)
    | _, _, _ => none) else none
  | _, _ => none
def cBool (rec : PySem.Expr → Option E) (p : Pos) : BoolOp → List PySem.Expr → Option E
  | _, [a] => rec a
  | .And, a :: b :: r => (match rec a, rec (.BoolOp .And (b :: r) p) with
    | some A, some B => some (.and A B)
    | _, _ => none)
  | .Or, a :: b :: r => (match rec a, rec (.BoolOp .Or (b :: r) p) with
    | some A, some B => some (.or A B)
    | _, _ => none)
  | _, [] => none
/-- what is walked -/
def isRange : PySem.Expr → Option (Str × List PySem.Expr)
  | .Call (.Name x _) es [] _ => if x = "range" then some (x, es) else none
  | _ => none
def cIt (c : Cfg) (rec : PySem.Expr → Option E) (e : PySem.Expr) : Option E := if notSet e then (match isRange e with
  | some (x, es) => if c.blts.contains x && isGl c x then (match es with
    | [a] => (cEs rec [a]).map .rng
    | [a, b] => (cEs rec [a, b]).map .rng
    | _ => none) else none
  | none => rec e) else none
/-- a target of names -/
def cTg (c : Cfg) : Nat → PySem.Expr → Option E
  | 0, _ => none
  | n + 1, e => match e with
    | .Name x _ => (match varOf c x with
      | some i => if decide (c.sc.names.lookup x = some .local) || (decide (c.sc.names.lookup x = some .cell) && c.fn x) then some (.var i) else none
      | none => none)
    | .Tuple ts _ _ => if ts.all plain then (mapO (cTg c n) ts).map .tup else none
    | _ => none
def ownOf (c : Cfg) (scope : Scope) : List (Str × Nat) := scope.names.filterMap fun y => match y.2 with
  | .local => (ixOf y.1 c.N).map fun i => (y.1, i)
  | .cell => (ixOf y.1 c.N).map fun i => (y.1, i)
  | _ => none
def Cfg.inner (c : Cfg) (scope : Scope) : Cfg := { c with sc := relS scope c.sc, fn := fun x => scope.names.lookup x == some .cell, stm := false }
def cIf (rec : PySem.Expr → Option E) : List PySem.Expr → Option E
  | [] => some (.bl true)
  | [t] => rec t
  | _ => none
def cComp (c : Cfg) (rec : Cfg → PySem.Expr → Option E) (elt : PySem.Expr) (scope : Scope) : List Comprehension → Option E
  | [⟨tg, it, ifs, 0⟩] => if blkC c.N c.sc scope (ownOf c scope) then (match cIt c (rec c) it, cTg (c.inner scope) 9 tg, cIf (rec (c.inner scope)) ifs, rec (c.inner scope) elt with
    | some IT, some TG, some CD, some A => if (tgSlots TG).all fun i => ((ownOf c scope).map (·.2)).contains i then some (.comp A TG IT CD ((ownOf c scope).map (·.2))) else none
    | _, _, _, _ => none) else none
  | [⟨tg, it, ifs, 0⟩, ⟨tg1, it1, ifs1, 0⟩] => if blkC c.N c.sc scope (ownOf c scope) then (match cIt c (rec c) it, cTg (c.inner scope) 9 tg, cIf (rec (c.inner scope)) ifs, rec (c.inner scope) elt with
    | some IT, some TG, some CD, some A => (match cIt (c.inner scope) (rec (c.inner scope)) it1, cTg (c.inner scope) 9 tg1, cIf (rec (c.inner scope)) ifs1 with
      | some IT1, some TG1, some CD1 => if ((tgSlots TG).all fun i => ((ownOf c scope).map (·.2)).contains i) && ((tgSlots TG1).all fun i => ((ownOf c scope).map (·.2)).contains i) then some (.comp2 A TG IT CD TG1 IT1 CD1 ((ownOf c scope).map (·.2)) (tgSlots TG1)) else none
      | _, _, _ => none)
    | _, _, _, _ => none) else none
  | _ => none
def compE : Nat → Cfg → PySem.Expr → Option E
  | 0, _, _ => none
  | n + 1, c, e => match e with
    | .Constant v _ _ => cConst v
    | .Name x _ => cName c x
    | .BinOp a op b _ => (match compE n c a, compE n c b with
      | some A, some B => some (.bin op A B)
      | _, _ => none)
    | .UnaryOp op a _ => (match op with
      | .USub => (compE n c a).map .neg
      | .Not => (compE n c a).map .not
      | _ => none)
    | .Compare a ops bs _ => cCmp (compE n c) a ops bs
    | .BoolOp op vs p => cBool (compE n c) p op vs
    | .IfExp t a b _ => (match compE n c t, compE n c a, compE n c b with
      | some C, some A, some B => some (.ite C A B)
      | _, _, _ => none)
    | .Tuple es _ _ => (cEs (compE n c) es).map .tup
    | .List es _ => (cEs (compE n c) es).map .lst
    | .Subscript a b _ => cSub (compE n c) a b
    | .Attribute o f _ => cAttr c (compE n c) o f
    | .Call f es kw p => if kw.isEmpty then cCall c (compE n c) p es f else none
    | .ListComp elt gs scope _ => if c.calm && !c.exc then cComp c (compE n) elt scope gs else none
    | _ => none
end Mch

/-! ## What the compiler makes of an expression says what the expression does -/
namespace Mch
open PySem PySem.Spec PyProof.Rows L2
/-- the context is as the compiler takes it -/
structure XOk (X : Cx) (g : Glob) (T : Tab) (W : WX) (md : Md) (c : Cfg) (k : Nat) : Prop where
  N : X.N = c.N
  nd : X.N.Nodup
  sc : X.env.scope = c.sc
  bk : c.sc.kind = .function
  fn : ∀ x, X.fn x = c.fn x
  K : g.K = X.K
  TP : T.P = g.P
  cP : c.P = g.P
  un : X.A.units + 64 < cLine
  kit : KitG g
  exc : ExcG g
  fld : ∀ d C Cl, g.cA d = some C → g.P.clss[d]? = some Cl → Cl.init.isSome = true → L2.Cls g.K C ∧ ∀ f ∈ Cl.fields, NoAttr g.K C f
  calm : c.calm = true → X.calm = true ∧ Takes X W ∧ Room k X.A
  funs : ∀ (x : Str) f, x ≠ "" → ixOf x c.fns = some f → FunOk g T X.prog X.w X.K X.mg X.base k x f
  fadr : ∀ f a, g.fA f = some a → ∃ x, FunOk g T X.prog X.w X.K X.mg X.base k x f
  cls : ∀ x j, c.cls.lookup x = some j → ∃ C, g.cA j = some C ∧ X.mg x = some (.ref C)
  blt : ∀ x, x ∈ c.blts → X.mg x = none
  mdx : ∀ i, md.ex i = decide (c.xs = some i)
  sui : (c.exc = false ∧ ∀ j a c d, md ≠ .exc j a c d) ∨ (c.exc = true ∧ c.calm = false ∧ W = W0 ∧ ∃ i a cl d X0 oe pn, md = .exc i a cl d ∧ X = Cx.suite X0 a ((a, oe) :: pn) ∧ Zc cl d oe ∧ ∃ vs, oe.data = .fields vs)
section
variable {X : Cx} {g : Glob} {T : Tab} {W : WX} {md : Md} {c : Cfg} {k : Nat} {e a b : PySem.Expr} {A B : E} {pos : Pos}
structure EOk (X : Cx) (g : Glob) (T : Tab) (W : WX) (md : Md) (e : PySem.Expr) (A : E) : Prop where
  pe : PE X e (tE g T W md A)
  pt : PT X e (tT g T W md A)
  pw : ∀ op vs p, e = .BoolOp op vs p → PW X e (tT g T W md A)
theorem EOk.of (hK : g.K = X.K) (h : PE X e (tE g T W md A)) (he : ∀ whole, isTrue e X.env whole = (do let v ← whole; standAt e.pos; holding [v] (truthy v))) (hb : ∀ op vs p, e ≠ .BoolOp op vs p) : EOk X g T W md e A :=
  ⟨h, pt_tru hK h he, fun op vs p z => absurd z (hb op vs p)⟩
def RecOk (rec : PySem.Expr → Option E) (X : Cx) (g : Glob) (T : Tab) (W : WX) (md : Md) : Prop := ∀ e A, rec e = some A → EOk X g T W md e A
variable {rec : PySem.Expr → Option E}
theorem XOk.slot (h : XOk X g T W md c k) {x : Str} {i : Nat} (hs : slotOf c x = some i) : X.N[i]? = some x ∧ Vis X.env.scope x ∧ (x == ("__debug__" : Str)) = false ∧ (x == ("__classdict__" : Str)) = false := by
  unfold slotOf at hs
  split at hs
  · rename_i hc
    simp only [Bool.and_eq_true, Bool.not_eq_true'] at hc
    obtain ⟨h1, h2, h3⟩ := hc
    refine ⟨by rw [h.N]; exact ixOf_get hs, ?_, h2, h3⟩
    rw [h.sc]
    unfold isVis at h1
    split at h1
    · exact .inl (by assumption)
    · exact .inr (.inl (by assumption))
    · exact .inr (.inr (by assumption))
    · cases h1
  · cases hs
theorem XOk.var (h : XOk X g T W md c k) {x : Str} {i : Nat} (hs : varOf c x = some i) : slotOf c x = some i ∧ md.ex i = false := by
  unfold varOf at hs
  split at hs
  · rename_i j hj
    split at hs
    · cases hs
    · rename_i hne
      cases hs
      exact ⟨hj, by rw [h.mdx]; simpa using hne⟩
  · cases hs
theorem gl_ne {x : Str} (hs : isGl c x = true) : x ≠ "" := by
  unfold isGl at hs
  simp only [Bool.and_eq_true, decide_eq_true_eq, Bool.not_eq_true', beq_eq_false_iff_ne] at hs
  exact hs.2.2
theorem XOk.gl (h : XOk X g T W md c k) {x : Str} (hs : isGl c x = true) : Gl X x ∧ (x == ("__debug__" : Str)) = false := by
  unfold isGl at hs
  simp only [Bool.and_eq_true, decide_eq_true_eq, Bool.not_eq_true'] at hs
  refine ⟨?_, hs.2.1⟩
  show X.env.scope.names.lookup x = _
  rw [h.sc]
  exact hs.1
theorem const_ok (hK : g.K = X.K) {v : Const} {j : Nat} (h : cConst v = some A) : EOk X g T W md (.Constant v j pos) A := by
  cases v <;> simp only [cConst, Option.some.injEq, reduceCtorEq] at h
  · subst h; exact .of hK (se_const pe_non (v := .non) (fun _ _ => by simp only [RV]) fun _ _ => by simp only [evE]) (fun _ => rfl) fun _ _ _ z => by cases z
  · rename_i z; subst h; exact .of hK (se_const pe_bl (v := .bl z) (fun _ _ => by simp only [RV]) fun _ _ => by simp only [evE]) (fun _ => rfl) fun _ _ _ z => by cases z
  · rename_i z; subst h; exact .of hK (se_const pe_int (v := .int z) (fun _ _ => by simp only [RV]) fun _ _ => by simp only [evE]) (fun _ => rfl) fun _ _ _ z => by cases z
  · rename_i z; subst h; exact .of hK (se_const pe_str (v := .str z) (fun _ _ => by simp only [RV]) fun _ _ => by simp only [evE]) (fun _ => rfl) fun _ _ _ z => by cases z
theorem name_ok (h : XOk X g T W md c k) {x : Str} (hs : cName c x = some A) : EOk X g T W md (.Name x pos) A := by
  unfold cName at hs
  split at hs
  · rename_i i hi
    cases hs
    obtain ⟨h1, h2⟩ := h.var hi
    obtain ⟨h3, h4, h5, h6⟩ := h.slot h1
    exact .of h.K (se_var (pe_var h3 h4 h5 h6) h2) (fun _ => rfl) fun _ _ _ z => by cases z
  · split at hs
    · rename_i hg
      obtain ⟨f, h1, rfl⟩ := Option.map_eq_some_iff.mp hs
      obtain ⟨a, fd, ps, dvs, D, h2, h3, _⟩ := (h.funs x f (gl_ne hg) h1).ex
      obtain ⟨g1, g2⟩ := h.gl hg
      exact .of h.K (se_const (pe_glob (v := .ref a) g1 h3 rfl g2) (v := .fn f) (fun _ _ => by simp only [RV]; exact ⟨a, rfl, h2⟩) fun _ _ => by simp only [evE]) (fun _ => rfl) fun _ _ _ z => by cases z
    · cases hs
theorem mapO_ok (hr : RecOk rec X g T W md) : ∀ {es : List PySem.Expr} {As : List E}, es.all plain = true → mapO rec es = some As → PA X es (tEs g T W md As) ∧ es.length = As.length
  | [], As, _, h => by
    simp only [mapO, Option.some.injEq] at h
    subst h
    exact ⟨sa_nil, rfl⟩
  | e :: es, As, hp, h => by
    rw [List.all_cons, Bool.and_eq_true] at hp
    simp only [mapO] at h
    split at h
    · rename_i A As' h1 h2
      cases h
      obtain ⟨q1, q2⟩ := mapO_ok hr hp.2 h2
      exact ⟨sa_cons hp.1 (hr e A h1).pe q1, by simp [q2]⟩
    · cases h
theorem es_ok (hr : RecOk rec X g T W md) {es : List PySem.Expr} {As : List E} (h : cEs rec es = some As) : es.all plain = true ∧ PA X es (tEs g T W md As) ∧ es.length = As.length := by
  unfold cEs at h
  split at h
  · rename_i hp
    exact ⟨hp, mapO_ok hr hp h⟩
  · cases h
theorem ty_ok (h : XOk X g T W md c k) {t : TyR} {e : PySem.Expr} (hs : cTy c e = some t) : plain e = true ∧ PCl X g e t := by
  unfold cTy at hs
  split at hs
  · rename_i x p
    refine ⟨rfl, ?_⟩
    split at hs
    · rename_i hg
      obtain ⟨g1, g2⟩ := h.gl hg
      split at hs
      · rename_i j hj
        cases hs
        obtain ⟨C, h1, h2⟩ := h.cls x j hj
        exact pcl_cls h1 g1 h2 g2
      · split at hs
        · rename_i hb
          have hb : x ∈ c.blts := by simpa using hb
          have := List.find?_some hs
          exact pcl_ty (by simpa using this) g1 (h.blt x hb)
        · cases hs
    · cases hs
  · cases hs
theorem tys_ok (h : XOk X g T W md c k) : ∀ {es : List PySem.Expr} {ts : List TyR}, mapO (cTy c) es = some ts → PCls X g es ts ∧ es.length = ts.length
  | [], ts, hs => by
    simp only [mapO, Option.some.injEq] at hs
    subst hs
    exact ⟨pcls_nil, rfl⟩
  | e :: es, ts, hs => by
    simp only [mapO] at hs
    split at hs
    · rename_i t ts' h1 h2
      cases hs
      obtain ⟨q1, q2⟩ := tys_ok h h2
      obtain ⟨q3, q4⟩ := ty_ok h h1
      exact ⟨pcls_cons q3 q4 q1, by simp [q2]⟩
    · cases hs
theorem isin_ok (h : XOk X g T W md c k) (hc : X.calm = true) {t : PySem.Expr} {R : E} {p : Pos} (hg : isGl c "isinstance" = true) (hm : ("isinstance" : Str) ∈ c.blts) (hp : plain a = true) (ha : EOk X g T W md a A) (hs : cIsin c A t = some R) : EOk X g T W md (.Call (.Name "isinstance" p) [a, t] [] pos) R := by
  obtain ⟨g1, g2⟩ := h.gl hg
  have m1 := h.blt _ hm
  unfold cIsin at hs
  split at hs
  · obtain ⟨ty, h1, rfl⟩ := Option.map_eq_some_iff.mp hs
    obtain ⟨q1, q2⟩ := ty_ok h h1
    exact .of h.K (se_isin h.kit h.TP h.K g1 m1 hp q1 ha.pe q2) (fun _ => rfl) fun _ _ _ z => by cases z
  · split at hs
    · rename_i es j p' hl
      simp only [Bool.and_eq_true, decide_eq_true_eq, Bool.not_eq_true', List.isEmpty_eq_false_iff] at hl
      obtain ⟨ts, h1, rfl⟩ := Option.map_eq_some_iff.mp hs
      obtain ⟨q1, q2⟩ := tys_ok h h1
      refine .of h.K (se_isinT h.kit h.TP h.K g1 m1 hp hl.1 (fun z => hl.2 ?_) ha.pe q1) (fun _ => rfl) fun _ _ _ z => by cases z
      rw [z] at q2
      exact List.length_eq_zero_iff.mp q2
    · cases hs
  · cases hs
theorem callN_ok (h : XOk X g T W md c k) (hr : RecOk rec X g T W md) (hc : c.calm = true) {x : Str} {p : Pos} {es : List PySem.Expr} (hs : cCallN c rec x es = some A) : EOk X g T W md (.Call (.Name x p) es [] pos) A := by
  obtain ⟨c1, c2, c3⟩ := h.calm hc
  unfold cCallN at hs
  split at hs
  · rename_i i hi
    obtain ⟨As, h0, rfl⟩ := Option.map_eq_some_iff.mp hs
    obtain ⟨q1, q2, q3⟩ := es_ok hr h0
    obtain ⟨h1, h2⟩ := h.var hi
    obtain ⟨h3, h4, h5, h6⟩ := h.slot h1
    exact .of h.K (se_callv h.fadr c3 c2 h3 h4 h2 h5 h6 q1 q3 q2) (fun _ => rfl) fun _ _ _ z => by cases z
  · split at hs
    · rename_i hg
      obtain ⟨g1, g2⟩ := h.gl hg
      split at hs
      · rename_i f hf
        obtain ⟨As, h0, rfl⟩ := Option.map_eq_some_iff.mp hs
        obtain ⟨q1, q2, q3⟩ := es_ok hr h0
        exact .of h.K (se_call (h.funs x f (gl_ne hg) hf) c3 c2 g1 g2 q1 q3 q2) (fun _ => rfl) fun _ _ _ z => by cases z
      · split at hs
        · rename_i hb
          have hb : x ∈ c.blts := by simpa using hb
          split at hs
          · rename_i hx
            subst hx
            split at hs
            · rename_i a t
              split at hs
              · rename_i hp
                obtain ⟨A', h1, h2⟩ := Option.bind_eq_some_iff.mp hs
                exact isin_ok h c1 hg hb hp (hr a A' h1) h2
              · cases hs
            · cases hs
          · split at hs
            · rename_i b hbi
              have hbn : biName b = x := by simpa using List.find?_some hbi
              split at hs
              · cases hs
              · rename_i hne
                obtain ⟨As, h0, rfl⟩ := Option.map_eq_some_iff.mp hs
                obtain ⟨q1, q2, q3⟩ := es_ok hr h0
                subst hbn
                cases es with
                | nil => exact absurd rfl hne
                | cons e es => exact .of h.K (se_bi c1 h.K g1 (h.blt _ hb) q1 q2) (fun _ => rfl) fun _ _ _ z => by cases z
            · cases hs
        · cases hs
    · cases hs
theorem callA_ok (h : XOk X g T W md c k) (hr : RecOk rec X g T W md) {o : PySem.Expr} {m : Str} {apos : Pos} {es : List PySem.Expr} (hs : cCallA rec o m apos es pos = some A) : EOk X g T W md (.Call (.Attribute o m apos) es [] pos) A := by
  unfold cCallA at hs
  split at hs
  · rename_i mt hm
    have hmn : mtName mt = m := by simpa using List.find?_some hm
    subst hmn
    split at hs
    · rename_i hl
      simp only [Bool.and_eq_true, decide_eq_true_eq, Bool.not_eq_true', List.isEmpty_eq_false_iff] at hl
      obtain ⟨l1, l2, l3, l4⟩ := hl
      split at hs
      · rename_i O As h1 h2
        cases hs
        obtain ⟨q1, q2, q3⟩ := es_ok hr h2
        cases es with
        | nil => exact absurd rfl l4
        | cons e es => exact .of h.K (se_mth h.K (hr o O h1).pe l1 l2 q1 l3 q2) (fun _ => rfl) fun _ _ _ z => by cases z
      · cases hs
    · cases hs
  · cases hs
theorem call_ok (h : XOk X g T W md c k) (hr : RecOk rec X g T W md) {f : PySem.Expr} {es : List PySem.Expr} (hs : cCall c rec pos es f = some A) : EOk X g T W md (.Call f es [] pos) A := by
  unfold cCall at hs
  split at hs
  · split at hs
    · rename_i hc
      exact callN_ok h hr hc hs
    · cases hs
  · exact callA_ok h hr hs
  · cases hs
theorem attr_ok (h : XOk X g T W md c k) (hr : RecOk rec X g T W md) {o : PySem.Expr} {f : Str} (hs : cAttr c rec o f = some A) : EOk X g T W md (.Attribute o f pos) A := by
  unfold cAttr at hs
  split at hs
  · rename_i hx
    split at hs
    · rename_i n p
      split at hs
      · rename_i i hi
        split at hs
        · rename_i hxs
          cases hs
          rcases h.sui with ⟨h1, _⟩ | ⟨_, _, rfl, i', a, cl, d, X0, oe, pn, rfl, rfl, hz, hv⟩
          · rw [h1] at hx
            cases hx
          · have hii : i' = i := by
              have := h.mdx i
              rw [hxs] at this
              simp [Md.ex] at this
              exact this.symm
            subst hii
            obtain ⟨h3, h4, h5, h6⟩ := h.slot hi
            refine .of h.K (sx_fld h.exc h.TP h.K hz hv (pe_var (X := Cx.suite X0 a ((a, oe) :: pn)) h3 h4 h5 h6)) (fun _ => rfl) fun _ _ _ z => by cases z
        · cases hs
      · cases hs
    · cases hs
  · split at hs
    · rename_i hb
      obtain ⟨O, h1, rfl⟩ := Option.map_eq_some_iff.mp hs
      exact .of h.K (se_fld h.fld h.TP h.K (hr o O h1).pe hb) (fun _ => rfl) fun _ _ _ z => by cases z
    · cases hs
theorem part_ok (hr : RecOk rec X g T W md) {o : Option PySem.Expr} (hs : cPart rec o = some A) : PO X o (tP g T W md A) := by
  unfold cPart at hs
  split at hs
  · cases hs
    exact po_no
  · split at hs
    · rename_i e' A' h1
      split at hs
      · cases hs
      · rename_i hn
        cases hs
        exact po_so (by simpa using hn) (hr _ _ h1).pe
    · cases hs
theorem sub_ok (hK : g.K = X.K) (hr : RecOk rec X g T W md) (hs : cSub rec a b = some A) : EOk X g T W md (.Subscript a b pos) A := by
  unfold cSub at hs
  split at hs
  · rename_i lo hi st p
    split at hs
    · rename_i hst
      have e0 : st = none := by simpa using hst
      subst e0
      split at hs
      · rename_i A' L H h1 h2 h3
        cases hs
        exact .of hK (se_slc hK (hr _ _ h1).pe (part_ok hr h2) (part_ok hr h3)) (fun _ => rfl) fun _ _ _ z => by cases z
      · cases hs
    · cases hs
  · split at hs
    · rename_i hn
      split at hs
      · rename_i A' B' h1 h2
        cases hs
        exact .of hK (se_idx hK hn (hr _ _ h1).pe (hr _ _ h2).pe) (fun _ => rfl) fun _ _ _ z => by cases z
      · cases hs
    · cases hs
theorem cmp_okE (h : XOk X g T W md c k) (hr : RecOk rec X g T W md) {ops : List CmpOp} {bs : List PySem.Expr} (hs : cCmp rec a ops bs = some A) : EOk X g T W md (.Compare a ops bs pos) A := by
  unfold cCmp at hs
  split at hs
  · split at hs
    · rename_i hn
      split at hs
      · rename_i A' B' h1 h2
        cases hs
        exact ⟨se_cmp h.K h.un hn (hr _ _ h1).pe (hr _ _ h2).pe, st_cmp h.K h.un hn (hr _ _ h1).pe (hr _ _ h2).pe, fun _ _ _ z => by cases z⟩
      · cases hs
    · cases hs
  · split at hs
    · rename_i hn
      split at hs
      · rename_i A' B' D' h1 h2 h3
        cases hs
        exact ⟨se_cmp2 h.K h.un hn (hr _ _ h1).pe (hr _ _ h2).pe (hr _ _ h3).pe, st_cmp2 h.K h.un hn (hr _ _ h1).pe (hr _ _ h2).pe (hr _ _ h3).pe, fun _ _ _ z => by cases z⟩
      · cases hs
    · cases hs
  · cases hs
theorem bool1_pe {op : BoolOp} {t : TE} (h : PE X a t) : PE X (.BoolOp op [a] pos) t := by
  refine ⟨fun pins s σ H Q I hh => ?_⟩
  have := h.run pins s σ H Q I hh
  show wpAny _ _ (boolOp pos op (evalEach [a] X.env)) _ _ _
  exact this
theorem bool_ok (hK : g.K = X.K) (hr : RecOk rec X g T W md) {op : BoolOp} {vs : List PySem.Expr} (hs : cBool rec pos op vs = some A) : EOk X g T W md (.BoolOp op vs pos) A := by
  unfold cBool at hs
  split at hs
  · have q := hr _ _ hs
    cases op
    · exact ⟨bool1_pe q.pe, (pw_and1 q.pt).pt, fun _ _ _ _ => pw_and1 q.pt⟩
    · exact ⟨bool1_pe q.pe, (pw_or1 q.pt).pt, fun _ _ _ _ => pw_or1 q.pt⟩
  · split at hs
    · rename_i A' B' h1 h2
      cases hs
      have q1 := hr _ _ h1
      have q2 := hr _ _ h2
      have w := sw_and (pos := pos) q1.pt (q2.pw _ _ _ rfl)
      exact ⟨se_and hK q1.pe q2.pe, w.pt, fun _ _ _ _ => w⟩
    · cases hs
  · split at hs
    · rename_i A' B' h1 h2
      cases hs
      have q1 := hr _ _ h1
      have q2 := hr _ _ h2
      have w := sw_or (pos := pos) q1.pt (q2.pw _ _ _ rfl)
      exact ⟨se_or hK q1.pe q2.pe, w.pt, fun _ _ _ _ => w⟩
    · cases hs
  · cases hs
theorem st_ite {t : PySem.Expr} {C : E} (hc : PT X t (tT g T W md C)) (ha : PT X a (tT g T W md A)) (hb : PT X b (tT g T W md B)) : PT X (.IfExp t a b pos) (tT g T W md (.ite C A B)) := by
  refine ⟨fun pins s σ H Q I h => ?_⟩
  obtain ⟨φ, G, μ, σm, sb, r, e, h⟩ := h
  simp only [evE] at h
  show wpAny _ _ (do if ← isTrue t X.env (eval t X.env) then isTrue a X.env (eval a X.env) else isTrue b X.env (eval b X.env)) _ _ _
  refine wpAny_bind (thn (hc.run pins s σ H (fun kb H1 => if kb = true then tT g T W md A σ H1 Q else tT g T W md B σ H1 Q) I ⟨φ, G, μ, σm, sb, r, e, ?_⟩) fun kb s1 hk => ?_)
  · cases e0 : evE T C σm μ with
    | ok v μ1 =>
      rw [e0] at h
      simp only [R.bind] at h ⊢
      unfold truR at h ⊢
      cases e1 : truM μ1 v with
      | none => rw [e1] at h; exact h.elim
      | some kb =>
        rw [e1] at h
        intro φ1 G1 H1 x1 r1
        cases kb with
        | true => exact ⟨φ1, G1, μ1, σm, x1.sub, r1, e.ext x1, Good.ext (r := (evE T A σm μ1).bind truR) h x1⟩
        | false => exact ⟨φ1, G1, μ1, σm, x1.sub, r1, e.ext x1, Good.ext (r := (evE T B σm μ1).bind truR) h x1⟩
    | exc x μ1 => rw [e0] at h; exact h
    | no => rw [e0] at h; exact h
  · obtain ⟨H1, I1, q1⟩ := hk
    cases kb with
    | true => exact ha.run pins s1 σ H1 Q I1 q1
    | false => exact hb.run pins s1 σ H1 Q I1 q1
end
end Mch

/-! ## The compiler: targets, walks, comprehensions; all expressions -/
namespace Mch
open PySem PySem.Spec PyProof.Rows L2
section
variable {X : Cx} {g : Glob} {T : Tab} {W : WX} {md : Md} {c : Cfg} {k : Nat} {e a b : PySem.Expr} {A B : E} {pos : Pos} {rec : PySem.Expr → Option E}
theorem loc_ok (h : XOk X g T W md c k) {x : Str} (hs : (decide (c.sc.names.lookup x = some .local) || (decide (c.sc.names.lookup x = some .cell) && c.fn x)) = true) : L2.Loc X.env.scope x ∧ (X.fn x = true ∨ X.env.scope.names.lookup x = some .local) := by
  simp only [Bool.or_eq_true, decide_eq_true_eq, Bool.and_eq_true] at hs
  unfold L2.Loc
  rw [h.sc, h.fn]
  rcases hs with hs | ⟨h1, h2⟩
  · exact ⟨.inl hs, .inr hs⟩
  · exact ⟨.inr h1, .inl h2⟩
theorem tg_ok (h : XOk X g T W md c k) (hc : X.calm = true) : ∀ {n : Nat} {e : PySem.Expr} {A : E}, cTg c n e = some A → PG X e (gB g md A) ∧ ∀ i ∈ tgSlots A, md.ex i = false
  | 0, e, A, hs => by simp only [cTg] at hs; cases hs
  | n + 1, e, A, hs => by
    simp only [cTg] at hs
    split at hs
    · split at hs
      · rename_i i hi
        split at hs
        · rename_i hl
          cases hs
          obtain ⟨h1, h2⟩ := h.var hi
          obtain ⟨h3, h4, h5, h6⟩ := h.slot h1
          obtain ⟨l1, l2⟩ := loc_ok h hl
          exact ⟨sg_var h.nd h3 l1 l2, fun j hj => by simp only [tgSlots, List.mem_singleton] at hj; rw [hj]; exact h2⟩
        · cases hs
      · cases hs
    · split at hs
      · rename_i ts j p hp
        obtain ⟨As, h1, rfl⟩ := Option.map_eq_some_iff.mp hs
        have q : ∀ {ts : List PySem.Expr} {As : List E}, ts.all plain = true → mapO (cTg c n) ts = some As → PGs X ts (gBs g md As) ∧ ts.length = As.length ∧ ∀ i ∈ tgSlotss As, md.ex i = false := by
          intro ts
          induction ts with
          | nil =>
            intro As _ hm
            simp only [mapO, Option.some.injEq] at hm
            subst hm
            exact ⟨sgs_nil, rfl, fun i hi => by simp [tgSlotss] at hi⟩
          | cons t ts ih =>
            intro As hp hm
            rw [List.all_cons, Bool.and_eq_true] at hp
            simp only [mapO] at hm
            split at hm
            · rename_i A As' e1 e2
              cases hm
              obtain ⟨i1, i2, i3⟩ := ih hp.2 e2
              obtain ⟨j1, j2⟩ := tg_ok h hc e1
              refine ⟨sgs_cons hp.1 j1 i1, by simp [i2], fun i hi => ?_⟩
              simp only [tgSlotss, List.mem_append] at hi
              exact hi.elim (j2 i) (i3 i)
            · cases hm
        obtain ⟨q1, q2, q3⟩ := q hp h1
        exact ⟨sg_tup hc h.K hp q2 q1, fun i hi => q3 i (by simpa only [tgSlots] using hi)⟩
      · cases hs
    · cases hs
theorem range_of {x : Str} {es : List PySem.Expr} (h : isRange e = some (x, es)) : ∃ p p', x = "range" ∧ e = .Call (.Name "range" p) es [] p' := by
  unfold isRange at h
  split at h
  · split at h
    · rename_i hx
      cases h
      subst hx
      exact ⟨_, _, rfl, rfl⟩
    · cases h
  · cases h
theorem it_ok (h : XOk X g T W md c k) (hr : RecOk rec X g T W md) {tg : PySem.Expr} (hs : cIt c rec e = some A) : PI X tg e (tI g T W md A) ∧ notSet e = true := by
  unfold cIt at hs
  split at hs
  · rename_i hn
    refine ⟨?_, hn⟩
    split at hs
    · rename_i x es hrg
      obtain ⟨p, p', rfl, rfl⟩ := range_of hrg
      split at hs
      · rename_i hb
        simp only [Bool.and_eq_true, List.contains_eq_mem, decide_eq_true_eq] at hb
        obtain ⟨g1, g2⟩ := h.gl hb.2
        have m1 := h.blt _ hb.1
        split at hs
        · obtain ⟨As, h0, rfl⟩ := Option.map_eq_some_iff.mp hs
          obtain ⟨q1, q2, q3⟩ := es_ok hr h0
          match As, q3 with
          | [B], _ =>
            simp only [List.all_cons, List.all_nil, Bool.and_true] at q1
            exact si_rng1 g1 m1 q1 q2
        · obtain ⟨As, h0, rfl⟩ := Option.map_eq_some_iff.mp hs
          obtain ⟨q1, q2, q3⟩ := es_ok hr h0
          match As, q3 with
          | [B, C], _ =>
            simp only [List.all_cons, List.all_nil, Bool.and_true, Bool.and_eq_true] at q1
            exact si_rng2 g1 m1 q1.1 q1.2 q2
        · cases hs
      · cases hs
    · exact si_val h.K (hr _ _ hs).pe
  · cases hs
theorem blk_ex (hmd : ∀ j a c d, md ≠ .exc j a c d) (i : Nat) : md.blk.ex i = md.ex i := by
  cases md with
  | exc j a c d => exact absurd rfl (hmd j a c d)
  | _ => rfl
theorem blk_ne (md : Md) : ∀ j a c d, md.blk ≠ .exc j a c d := by
  cases md <;> intro _ _ _ _ z <;> cases z
/-- within a comprehension -/
theorem XOk.inner (h : XOk X g T W md c k) (he : c.exc = false) (hc : c.calm = true) {scope : Scope} (hb : blkC c.N c.sc scope (ownOf c scope) = true) (s : Shared) (H : Hp) (C : Addr) (cl : List (Str × Addr)) (fp : List Addr) :
    XOk (X.blk s H scope (compEnvC scope cl C X.env) fp) g T W0 md.blk (c.inner scope) k := by
  obtain ⟨c1, c2, c3⟩ := h.calm hc
  have hmd : ∀ j a c d, md ≠ .exc j a c d := by
    rcases h.sui with ⟨_, z⟩ | ⟨z, _⟩
    · exact z
    · rw [he] at z; cases z
  have hk := (blkOk_by hb).kind
  exact ⟨h.N, h.nd, by show relS scope X.env.scope = relS scope c.sc; rw [h.sc], hk, fun x => rfl, h.K, h.TP, h.cP, h.un, h.kit, h.exc, h.fld, fun _ => ⟨c1, takes0, c3⟩, h.funs, h.fadr, h.cls, h.blt, fun i => by rw [blk_ex hmd]; exact h.mdx i, .inl ⟨he, blk_ne md⟩⟩
theorem if_ok (hr : RecOk rec X g T W md) {ifs : List PySem.Expr} (hs : cIf rec ifs = some A) : PTs X ifs (tT g T W md A) := by
  unfold cIf at hs
  split at hs
  · cases hs
    refine ⟨fun pins s σ H Q I h => pts_nil.run pins s σ H Q I ?_⟩
    obtain ⟨φ, G, μ, σm, sb, r, e, h⟩ := h
    simp only [evE] at h
    exact Good.here (a := true) (μ := μ) h sb r
  · exact pts_one (hr _ _ hs).pt
  · cases hs
theorem comp_ok {recC : Cfg → PySem.Expr → Option E} (h : XOk X g T W md c k) (he : c.exc = false) (hc : c.calm = true) (hr : ∀ X W md c, XOk X g T W md c k → RecOk (recC c) X g T W md) {elt : PySem.Expr} {scope : Scope} {gs : List Comprehension} (hs : cComp c recC elt scope gs = some A) :
    PE X (.ListComp elt gs scope pos) (tE g T W md A) ∧ (∀ i y py spos, X.N[i]? = some y → X.env.scope.names.lookup y = some .local → md.ex i = false → swapsWith (.ListComp elt gs scope pos) (some (.Name y py)) spos.line X.env = pure true →
      PS X (.Assign [.Name y py] (.ListComp elt gs scope pos) spos) (tR g W md (evS T (.asg (.var i) A)))) := by
  obtain ⟨c1, c2, c3⟩ := h.calm hc
  have hmd : ∀ j a c d, md ≠ .exc j a c d := by
    rcases h.sui with ⟨_, z⟩ | ⟨z, _⟩
    · exact z
    · rw [he] at z; cases z
  have rX := hr _ _ _ _ h
  unfold cComp at hs
  split at hs
  · split at hs
    · rename_i hb
      have hin := fun s H C cl fp => h.inner he hc hb s H C cl fp
      have bo : BlkOk X.N X.env.scope scope (ownOf c scope) := by rw [h.N, h.sc]; exact blkOk_by hb
      split at hs
      · rename_i IT TG CD A' e1 e2 e3 e4
        split at hs
        · rename_i hsl
          cases hs
          have hsl : ∀ i ∈ tgSlots TG, i ∈ (ownOf c scope).map (·.2) := by
            rw [List.all_eq_true] at hsl
            intro i hi
            simpa using hsl i hi
          have i2 := (it_ok (tg := elt) h rX e1).2
          have G := fun s H C cl fp => (tg_ok (hin s H C cl fp) c1 e2).1
          have F := fun s H C cl fp => if_ok (hr _ _ _ _ (hin s H C cl fp)) e3
          have L := fun s H C cl fp => (hr _ _ _ _ (hin s H C cl fp) _ _ e4).pe
          exact ⟨se_comp c1 h.nd hmd (it_ok h rX e1).1 bo hsl G F L i2, fun i y py spos y1 y2 y3 y4 => sp_setc c1 h.nd hmd y1 y2 y3 y4 (it_ok h rX e1).1 bo hsl G F L i2⟩
        · cases hs
      · cases hs
    · cases hs
  · split at hs
    · rename_i hb
      have hin := fun s H C cl fp => h.inner he hc hb s H C cl fp
      have bo : BlkOk X.N X.env.scope scope (ownOf c scope) := by rw [h.N, h.sc]; exact blkOk_by hb
      split at hs
      · rename_i IT TG CD A' e1 e2 e3 e4
        split at hs
        · rename_i IT1 TG1 CD1 e5 e6 e7
          split at hs
          · rename_i hsl
            cases hs
            rw [Bool.and_eq_true, List.all_eq_true, List.all_eq_true] at hsl
            have hs0 : ∀ i ∈ tgSlots TG, i ∈ (ownOf c scope).map (·.2) := fun i hi => by simpa using hsl.1 i hi
            have hs1 : ∀ i ∈ tgSlots TG1, i ∈ (ownOf c scope).map (·.2) := fun i hi => by simpa using hsl.2 i hi
            have i2 := (it_ok (tg := elt) h rX e1).2
            have G := fun s H C cl fp => (tg_ok (hin s H C cl fp) c1 e2).1
            have F := fun s H C cl fp => if_ok (hr _ _ _ _ (hin s H C cl fp)) e3
            have L := fun s H C cl fp => (hr _ _ _ _ (hin s H C cl fp) _ _ e4).pe
            have J := fun tg s H C cl fp => (it_ok (tg := tg) (hin s H C cl fp) (hr _ _ _ _ (hin s H C cl fp)) e5).1
            have j2 := (it_ok (tg := elt) (hin X.s_0 X.H_0 0 [] []) (hr _ _ _ _ (hin X.s_0 X.H_0 0 [] [])) e5).2
            have G1 := fun s H C cl fp => (tg_ok (hin s H C cl fp) c1 e6).1
            have F1 := fun s H C cl fp => if_ok (hr _ _ _ _ (hin s H C cl fp)) e7
            exact ⟨se_comp2 c1 h.nd hmd (it_ok h rX e1).1 bo hs1 hs0 (fun i hi => hi) G F (J _) G1 F1 L i2 j2, fun i y py spos y1 y2 y3 y4 => sp_setc2 c1 h.nd hmd y1 y2 y3 y4 (it_ok h rX e1).1 bo hs1 hs0 (fun i hi => hi) G F (J _) G1 F1 L i2 j2⟩
          · cases hs
        · cases hs
      · cases hs
    · cases hs
  · cases hs
/-- THE COMPILER IS SOUND for expressions -/
theorem compE_ok : ∀ (n : Nat) (X : Cx) (W : WX) (md : Md) (c : Cfg), XOk X g T W md c k → RecOk (compE n c) X g T W md
  | 0, X, W, md, c, h, e, A, hs => by simp only [compE] at hs; cases hs
  | n + 1, X, W, md, c, h, e, A, hs => by
    have hr : RecOk (compE n c) X g T W md := compE_ok n X W md c h
    simp only [compE] at hs
    split at hs
    · exact const_ok h.K hs
    · exact name_ok h hs
    · split at hs
      · rename_i A' B' h1 h2
        cases hs
        exact .of h.K (se_bin h.K (hr _ _ h1).pe (hr _ _ h2).pe) (fun _ => rfl) fun _ _ _ z => by cases z
      · cases hs
    · split at hs
      · obtain ⟨A', h1, rfl⟩ := Option.map_eq_some_iff.mp hs
        exact .of h.K (se_neg (hr _ _ h1).pe) (fun _ => rfl) fun _ _ _ z => by cases z
      · obtain ⟨A', h1, rfl⟩ := Option.map_eq_some_iff.mp hs
        exact ⟨se_not h.K (hr _ _ h1).pe, st_not (hr _ _ h1).pt, fun _ _ _ z => by cases z⟩
      · cases hs
    · exact cmp_okE h hr hs
    · exact bool_ok h.K hr hs
    · split at hs
      · rename_i C' A' B' h1 h2 h3
        cases hs
        exact ⟨se_ite (hr _ _ h1).pt (hr _ _ h2).pe (hr _ _ h3).pe, st_ite (hr _ _ h1).pt (hr _ _ h2).pt (hr _ _ h3).pt, fun _ _ _ z => by cases z⟩
      · cases hs
    · obtain ⟨As, h1, rfl⟩ := Option.map_eq_some_iff.mp hs
      exact .of h.K (se_tup (es_ok hr h1).2.1) (fun _ => rfl) fun _ _ _ z => by cases z
    · obtain ⟨As, h1, rfl⟩ := Option.map_eq_some_iff.mp hs
      exact .of h.K (se_lst (es_ok hr h1).2.1) (fun _ => rfl) fun _ _ _ z => by cases z
    · exact sub_ok h.K hr hs
    · exact attr_ok h hr hs
    · split at hs
      · rename_i hk
        have e0 := List.isEmpty_iff.mp hk
        subst e0
        exact call_ok h hr hs
      · cases hs
    · split at hs
      · rename_i hk
        simp only [Bool.and_eq_true, Bool.not_eq_true'] at hk
        exact .of h.K (comp_ok h hk.2 hk.1 (fun X W md c hx => compE_ok n X W md c hx) hs).1 (fun _ => rfl) fun _ _ _ z => by cases z
      · cases hs
    · cases hs
end
end Mch

/-! ## The compiler: statements -/
namespace Mch
open PySem PySem.Spec PyProof.Rows L2
/-! ### the compiler -/
def cAt (c : Cfg) (rec : PySem.Expr → Option E) : Nat → PySem.Expr → Option E
  | 0, _ => none
  | n + 1, e => match e with
    | .Name x _ => (match varOf c x with
      | some i => if decide (c.sc.names.lookup x = some .local) || (decide (c.sc.names.lookup x = some .cell) && c.fn x) then some (.var i) else none
      | none => none)
    | .Tuple ts _ _ => if c.calm && ts.all plain then (mapO (cAt c rec n) ts).map .tup else none
    | .Subscript o i _ => if notSlice i then (match rec o, rec i with
      | some O, some B => some (.idx O B)
      | _, _ => none) else none
    | _ => none
def isNameE : PySem.Expr → Bool
  | .Name _ _ => true
  | _ => false
def locSlot (c : Cfg) (x : Str) : Option Nat := if decide (c.sc.names.lookup x = some .local) then varOf c x else none
/-- a comprehension stored: true, if it comes within its block -/
def cAsgC (c : Cfg) (recC : Cfg → PySem.Expr → Option E) (elt : PySem.Expr) (gs : List Comprehension) (scope : Scope) (p : Pos) : PySem.Expr → Option S
  | .Name y py => (match cComp c recC elt scope gs with
    | some A => if swpB c.sc scope y py p then (locSlot c y).map fun i => .asg (.var i) A else (cAt c (recC c) 9 (.Name y py)).map fun TT => .asg TT A
    | none => none)
  | _ => none
def cPar (c : Cfg) (rec : PySem.Expr → Option E) (names : List Str) : List PySem.Expr → List PySem.Expr → Option S
  | [.Name x _, .Name y _], [a, b] => if names = [x, y] then (match locSlot c x, locSlot c y, cEs rec [a, b] with
    | some i, some j, some [A, B] => if i = j then none else some (.asg (.tup [.var i, .var j]) (.tup [A, B]))
    | _, _, _ => none) else none
  | [.Name x _, .Name y _, .Name z _], [a, b, d] => if names = [x, y, z] then (match locSlot c x, locSlot c y, locSlot c z, cEs rec [a, b, d] with
    | some i, some j, some l, some [A, B, D] => if i = j ∨ i = l ∨ j = l then none else some (.asg (.tup [.var i, .var j, .var l]) (.tup [A, B, D]))
    | _, _, _, _ => none) else none
  | _, _ => none
def cAsg1 (c : Cfg) (rec : PySem.Expr → Option E) (t e : PySem.Expr) : Option S := if plain t && notComp e then (match rec e, cAt c rec 9 t with
    | some A, some TT => some (.asg TT A)
    | _, _ => none) else none
def tupOf : PySem.Expr → Option (List PySem.Expr × Nat × Pos)
  | .Tuple ts k p => some (ts, k, p)
  | _ => none
def lcOf : PySem.Expr → Option (PySem.Expr × List Comprehension × Scope × Pos)
  | .ListComp elt gs scope p => some (elt, gs, scope, p)
  | _ => none
def cAsg (c : Cfg) (recC : Cfg → PySem.Expr → Option E) (t e : PySem.Expr) : Option S := match lcOf e with
  | some (elt, gs, scope, p) => if c.calm && !c.exc then cAsgC c recC elt gs scope p t else none
  | none => match tupOf t, tupOf e with
    | some (ts, _, _), some (vs, _, _) => (match swK c.sc ts vs with
      | some none => cAsg1 c (recC c) t e
      | some (some names) => if c.calm then cPar c (recC c) names ts vs else none
      | none => none)
    | _, _ => if notSeq t || notSeq e then cAsg1 c (recC c) t e else none
def exCls (c : Cfg) (x : Str) : Option (Nat × ClsM) := if isGl c x then (match c.cls.lookup x with
  | some j => (match c.P.clss[j]? with
    | some C => if C.exc then some (j, C) else none
    | none => none)
  | none => none) else none
def cRaise (c : Cfg) : PySem.Expr → Option S
  | .Call (.Name x _) [.Constant (.str m) _ _] kw _ => if kw.isEmpty then (match exCls c x with
    | some (j, C) => if C.fields.isEmpty then some (.raise j [.str m]) else none
    | none => none) else none
  | _ => none
def Cfg.suite (c : Cfg) (ni : Option Nat) : Cfg := { c with calm := false, stm := false, exc := ni.isSome, xs := ni }
/-- the slot of a clause's name -/
def cNm (c : Cfg) : Option Str → Option (Option Nat)
  | none => some none
  | some n => (locSlot c n).map some
def cHd (c : Cfg) (rec : Cfg → Stmt → Option S) : ExceptHandler → Option (Nat × Option Nat × List S)
  | .ExceptHandler (some (.Name x _)) n (b :: su) _ => (match exCls c x, cNm c n with
    | some (j, _), some ni => (match mapO (rec (c.suite ni)) (b :: su) with
      | some Hb => some (j, ni, Hb)
      | none => none)
    | _, _ => none)
  | _ => none
def cTry (c : Cfg) (rec : Cfg → Stmt → Option S) (b : List Stmt) : List ExceptHandler → Option S
  | [h] => (match mapO (rec c) b, cHd c rec h with
    | some B, some (j, ni, Hb) => some (.try1 B j ni Hb)
    | _, _ => none)
  | [h, h'] => (match mapO (rec c) b, cHd c rec h, cHd c rec h' with
    | some B, some (j, ni, Hb), some (j', ni', Hb') => some (.try2 B j ni Hb j' ni' Hb')
    | _, _, _ => none)
  | _ => none
def compS : Nat → Cfg → Stmt → Option S
  | 0, _, _ => none
  | n + 1, c, s => match s with
    | .Pass _ => some .pass
    | .Break _ => some .brk
    | .Continue _ => some .cnt
    | .Return none _ => some .retN
    | .Return (some e) _ => (compE 40 c e).map .ret
    | .Expr e _ => if notComp e then (compE 40 c e).map .expr else none
    | .If t a b _ => (match compE 40 c t, mapO (compS n c) a, mapO (compS n c) b with
      | some C, some A, some B => some (.ite C A B)
      | _, _, _ => none)
    | .While t b o _ => if c.stm && o.isEmpty then (match compE 40 c t, mapO (compS n c) b with
      | some C, some B => some (.while C B)
      | _, _ => none) else none
    | .For tg it b o _ => if c.stm && (c.calm && o.isEmpty) then (match cIt c (compE 40 c) it, cTg c 9 tg, mapO (compS n c) b with
      | some J, some TG, some B => some (.for TG J B)
      | _, _, _ => none) else none
    | .Assign ts e _ => (match ts with
      | [t] => cAsg c (compE 40) t e
      | _ => none)
    | .Raise x y _ => (match x, y with
      | some x, none => if c.calm then cRaise c x else none
      | _, _ => none)
    | .Try b hs o f _ => if c.stm && (c.calm && (!c.exc && (c.xs.isNone && (o.isEmpty && f.isEmpty)))) then cTry c (compS n) b hs else none
    | _ => none
/-! ### it is sound -/
structure XSt (X : Cx) (c : Cfg) : Prop where
  stm : c.stm = true → PassesOwn (model X.prog X.w) X.A X.env X.xe ∧ X.stack = X.env :: X.outer ∧ X.env.frame = some X.env.locals
section
variable {X : Cx} {g : Glob} {T : Tab} {W : WX} {md : Md} {c : Cfg} {k : Nat} {e a b t : PySem.Expr} {A B : E} {pos : Pos} {rec : PySem.Expr → Option E} {st : S}
theorem locSlot_ok (h : XOk X g T W md c k) {x : Str} {i : Nat} (hs : locSlot c x = some i) : X.N[i]? = some x ∧ X.env.scope.names.lookup x = some .local ∧ md.ex i = false := by
  unfold locSlot at hs
  split at hs
  · rename_i hl
    obtain ⟨h1, h2⟩ := h.var hs
    rw [h.sc]
    exact ⟨(h.slot h1).1, by simpa using hl, h2⟩
  · cases hs
theorem at_ok (h : XOk X g T W md c k) (hr : RecOk rec X g T W md) : ∀ {n : Nat} {e : PySem.Expr} {A : E}, cAt c rec n e = some A → PG X e (gA g T md A)
  | 0, e, A, hs => by simp only [cAt] at hs; cases hs
  | n + 1, e, A, hs => by
    simp only [cAt] at hs
    split at hs
    · split at hs
      · rename_i i hi
        split at hs
        · rename_i hl
          cases hs
          obtain ⟨h1, h2⟩ := h.var hi
          obtain ⟨h3, h4, h5, h6⟩ := h.slot h1
          obtain ⟨l1, l2⟩ := loc_ok h hl
          exact ga_var h.nd h3 l1 l2 h2
        · cases hs
      · cases hs
    · split at hs
      · rename_i ts j p hp
        rw [Bool.and_eq_true] at hp
        obtain ⟨As, h1, rfl⟩ := Option.map_eq_some_iff.mp hs
        have q : ∀ {ts : List PySem.Expr} {As : List E}, ts.all plain = true → mapO (cAt c rec n) ts = some As → PGs X ts (gAs g T md As) ∧ ts.length = As.length := by
          intro ts
          induction ts with
          | nil =>
            intro As _ hm
            simp only [mapO, Option.some.injEq] at hm
            subst hm
            exact ⟨gas_nil, rfl⟩
          | cons t ts ih =>
            intro As hp hm
            rw [List.all_cons, Bool.and_eq_true] at hp
            simp only [mapO] at hm
            split at hm
            · rename_i A As' e1 e2
              cases hm
              obtain ⟨i1, i2⟩ := ih hp.2 e2
              exact ⟨gas_cons hp.1 (at_ok h hr e1) i1, by simp [i2]⟩
            · cases hm
        obtain ⟨q1, q2⟩ := q hp.2 h1
        exact ga_tup (h.calm hp.1).1 h.K hp.2 q2 q1
      · cases hs
    · split at hs
      · rename_i hn
        split at hs
        · rename_i O B' h1 h2
          cases hs
          exact ga_idx hn (hr _ _ h1).pe (hr _ _ h2).pe
        · cases hs
      · cases hs
    · cases hs
theorem sp_asgG {TT : E} (hs : swapsWith e (some t) pos.line X.env = pure false) (hp : plain t = true) (hw : swappedStores [t] e X.env = pure none) (he : PE X e (tE g T W md A)) (hg : PG X t (gA g T md TT)) : PS X (.Assign [t] e pos) (tR g W md (evS T (.asg TT A))) := by
  refine ⟨fun pins s σ H D I h => (ps_asg he hg hs hw (assign1 hp)).run pins s σ H D I ?_⟩
  obtain ⟨φ, G, μ, σm, sb, r, st, h⟩ := h
  simp only [evS] at h
  refine ⟨φ, G, μ, σm, sb, r, st, (h.stm st).imp fun v μ1 φ1 G1 H1 e1 r1 k w hw => ⟨φ1, G1, μ1, v, σm, e1.sub, r1, hw, st.ext e1, ?_⟩⟩
  cases e0 : asgT T TT v σm μ1 with
  | ok σ1 μ2 => rw [e0] at k; exact k
  | exc x' μ2 => rw [e0] at k; exact k.elim
  | no => rw [e0] at k; exact k.elim
theorem asg1_ok (h : XOk X g T W md c k) (hr : RecOk rec X g T W md) (hw : swappedStores [t] e X.env = pure none) (hs : cAsg1 c rec t e = some st) : PS X (.Assign [t] e pos) (tR g W md (evS T st)) := by
  unfold cAsg1 at hs
  split at hs
  · rename_i hp
    rw [Bool.and_eq_true] at hp
    split at hs
    · rename_i A TT h1 h2
      cases hs
      exact sp_asgG (swaps_no hp.2) hp.1 hw (hr _ _ h1).pe (at_ok h hr h2)
    · cases hs
  · cases hs
theorem bk_ok (h : XOk X g T W md c k) : X.env.blockKind = .function := by
  unfold Env.blockKind
  rw [h.sc, h.bk]
  rfl
theorem par_ok (h : XOk X g T W md c k) (hc : c.calm = true) (hr : RecOk rec X g T W md) {names : List Str} {ts vs : List PySem.Expr} {kt k2 : Nat} {pt pt2 : Pos} (hw : swappedStores [.Tuple ts kt pt] (.Tuple vs k2 pt2) X.env = pure (some names)) (hs : cPar c rec names ts vs = some st) :
    PS X (.Assign [.Tuple ts kt pt] (.Tuple vs k2 pt2) pos) (tR g W md (evS T st)) := by
  obtain ⟨c1, c2, c3⟩ := h.calm hc
  unfold cPar at hs
  split at hs
  · split at hs
    · rename_i hn
      subst hn
      split at hs
      · rename_i i j A B h1 h2 h3
        obtain ⟨q1, q2, q3⟩ := es_ok hr h3
        obtain ⟨a1, a2, a3⟩ := locSlot_ok h h1
        obtain ⟨b1, b2, b3⟩ := locSlot_ok h h2
        split at hs
        · cases hs
        · rename_i hij
          cases hs
          exact sp_par2 c1 h.nd a1 b1 hij a3 b3 a2 b2 q2 hw
      · cases hs
    · cases hs
  · split at hs
    · rename_i hn
      subst hn
      split at hs
      · rename_i i j l A B D h1 h2 h3 h4
        obtain ⟨q1, q2, q3⟩ := es_ok hr h4
        obtain ⟨a1, a2, a3⟩ := locSlot_ok h h1
        obtain ⟨b1, b2, b3⟩ := locSlot_ok h h2
        obtain ⟨d1, d2, d3⟩ := locSlot_ok h h3
        split at hs
        · cases hs
        · rename_i hij
          simp only [not_or] at hij
          cases hs
          exact sp_par3 c1 h.nd a1 b1 d1 hij.1 hij.2.1 hij.2.2 a3 b3 d3 a2 b2 d2 q2 hw
      · cases hs
    · cases hs
  · cases hs
theorem asg_ok {recC : Cfg → PySem.Expr → Option E} (h : XOk X g T W md c k) (hrC : ∀ X W md c, XOk X g T W md c k → RecOk (recC c) X g T W md) (hs : cAsg c recC t e = some st) : PS X (.Assign [t] e pos) (tR g W md (evS T st)) := by
  have hr := hrC _ _ _ _ h
  unfold cAsg at hs
  split at hs
  · rename_i elt gs scope p hl
    have he : e = .ListComp elt gs scope p := by
      unfold lcOf at hl
      split at hl
      · cases hl; rfl
      · cases hl
    subst he
    split at hs
    · rename_i hk
      simp only [Bool.and_eq_true, Bool.not_eq_true'] at hk
      unfold cAsgC at hs
      split at hs
      · rename_i y py
        split at hs
        · rename_i A h2
          split at hs
          · rename_i hsw
            obtain ⟨i, h1, rfl⟩ := Option.map_eq_some_iff.mp hs
            obtain ⟨a1, a2, a3⟩ := locSlot_ok h h1
            refine (comp_ok h hk.2 hk.1 hrC h2).2 i y py pos a1 a2 a3 ?_
            rw [swpB_ok (bk_ok h), h.sc, hsw]
          · rename_i hsw
            obtain ⟨TT, h1, rfl⟩ := Option.map_eq_some_iff.mp hs
            refine sp_asgG ?_ rfl (sw_none (.inl rfl)) (comp_ok h hk.2 hk.1 hrC h2).1 (at_ok h hr h1)
            rw [swpB_ok (bk_ok h), h.sc]
            simp only [Bool.not_eq_true] at hsw
            rw [hsw]
        · cases hs
      · cases hs
    · cases hs
  · split at hs
    · rename_i ts k1 p1 vs k2 p2 ht he'
      have e1 : t = .Tuple ts k1 p1 := by
        unfold tupOf at ht
        split at ht
        · cases ht; rfl
        · cases ht
      have e2 : e = .Tuple vs k2 p2 := by
        unfold tupOf at he'
        split at he'
        · cases he'; rfl
        · cases he'
      subst e1 e2
      split at hs
      · rename_i hw
        exact asg1_ok h hr (swK_ok h.sc (bk_ok h) hw) hs
      · rename_i names hw
        split at hs
        · rename_i hc
          exact par_ok h hc hr (swK_ok h.sc (bk_ok h) hw) hs
        · cases hs
      · cases hs
    · split at hs
      · rename_i hn
        rw [Bool.or_eq_true] at hn
        exact asg1_ok h hr (sw_none hn) hs
      · cases hs
theorem exCls_ok (h : XOk X g T W md c k) {x : Str} {j : Nat} {C : ClsM} (hs : exCls c x = some (j, C)) : ∃ Ca, ClsAt X g x j Ca ∧ g.P.clss[j]? = some C ∧ C.exc = true ∧ Gl X x ∧ X.mg x = some (.ref Ca) ∧ (x == ("__debug__" : Str)) = false := by
  unfold exCls at hs
  split at hs
  · rename_i hg
    obtain ⟨g1, g2⟩ := h.gl hg
    split at hs
    · rename_i j' hj
      split at hs
      · rename_i C' hC
        split at hs
        · rename_i he
          cases hs
          obtain ⟨Ca, h1, h2⟩ := h.cls x j hj
          rw [h.cP] at hC
          exact ⟨Ca, ⟨⟨g1, g2, .inl h2⟩, h1, C, hC, he⟩, hC, he, g1, h2, g2⟩
        · cases hs
      · cases hs
    · cases hs
  · cases hs
theorem raise_ok (h : XOk X g T W md c k) (hc : c.calm = true) (hs : cRaise c e = some st) : PS X (.Raise (some e) none pos) (tR g W md (evS T st)) := by
  obtain ⟨c1, c2, c3⟩ := h.calm hc
  unfold cRaise at hs
  split at hs
  · split at hs
    · rename_i hk
      have e0 := List.isEmpty_iff.mp hk
      subst e0
      split at hs
      · rename_i j C hx
        obtain ⟨Ca, q1, q2, q3, q4, q5, q6⟩ := exCls_ok h hx
        split at hs
        · rename_i hf
          cases hs
          exact sp_raise0 c1 c2 h.exc h.TP h.K q1.ca q2 q3 (List.isEmpty_iff.mp hf) q4 q5 q6
        · cases hs
      · cases hs
    · cases hs
  · cases hs
/-- statements' soundness -/
def SRec (rec : Cfg → Stmt → Option S) (g : Glob) (T : Tab) (k : Nat) : Prop := ∀ X W md c s S, XOk X g T W md c k → XSt X c → rec c s = some S → PS X s (tR g W md (evS T S))
theorem body_ok {rec : Cfg → Stmt → Option S} (hr : SRec rec g T k) (h : XOk X g T W md c k) (hx : XSt X c) : ∀ {ss : List Stmt} {B : List S}, mapO (rec c) ss = some B → PSs X ss (tR g W md (evB T B))
  | [], B, hs => by
    simp only [mapO, Option.some.injEq] at hs
    subst hs
    exact ss_nil
  | s :: ss, B, hs => by
    simp only [mapO] at hs
    split at hs
    · rename_i S B' h1 h2
      cases hs
      exact ss_cons (hr X W md c s S h hx h1) (body_ok hr h hx h2)
    · cases hs
theorem md_no (h : XOk X g T W md c k) (hx : c.xs = none) : md = .no := by
  have q : ∀ i, md.ex i = false := fun i => by rw [h.mdx, hx]; rfl
  cases md with
  | no => rfl
  | ini x => exact absurd (q 0) (by simp [Md.ex])
  | hid0 => exact absurd (q 0) (by simp [Md.ex])
  | exc i a cl d => exact absurd (q i) (by simp [Md.ex])
theorem XOk.tr (h : XOk X g T W md c k) (W' : WX) (pn : List (Addr × Obj)) (xe : Value → Shared → Prop) (tk : Takes (X.tr pn xe) W') (hn : c.exc = false) : XOk (X.tr pn xe) g T W' md c k :=
  ⟨h.N, h.nd, h.sc, h.bk, h.fn, h.K, h.TP, h.cP, h.un, h.kit, h.exc, h.fld, fun hc => let ⟨c1, _, c3⟩ := h.calm hc; ⟨c1, tk, c3⟩, h.funs, h.fadr, h.cls, h.blt, h.mdx, .inl ⟨hn, by
    rcases h.sui with ⟨_, z⟩ | ⟨z, _⟩
    · exact z
    · rw [hn] at z; cases z⟩⟩
theorem XOk.suite (h : XOk X g T W md c k) {ni : Option Nat} (a : Addr) (oe : Obj) (cl : Value) (d : Option Addr) (pn : List (Addr × Obj)) (hz : Zc cl d oe) (hv : ∃ vs, oe.data = .fields vs) : XOk (X.suite a ((a, oe) :: pn)) g T W0 (sMd ni a cl d) (c.suite ni) k := by
  refine ⟨h.N, h.nd, h.sc, h.bk, h.fn, h.K, h.TP, h.cP, h.un, h.kit, h.exc, h.fld, (fun z => by cases z), h.funs, h.fadr, h.cls, h.blt, fun i => ?_, ?_⟩
  · cases ni with
    | none => rfl
    | some j =>
      show (i == j) = decide (some j = some i)
      by_cases e : i = j
      · subst e; simp
      · have e' : j ≠ i := fun (z : j = i) => e z.symm
        simp [e, e']
  · cases ni with
    | none => exact .inl ⟨rfl, fun _ _ _ _ z => by cases z⟩
    | some j => exact .inr ⟨rfl, rfl, rfl, j, a, cl, d, X, oe, pn, rfl, rfl, hz, hv⟩
theorem nm_ok (h : XOk X g T W md c k) {n : Option Str} {ni : Option Nat} (hs : cNm c n = some ni) : NameAt X n ni := by
  cases n with
  | none =>
    simp only [cNm, Option.some.injEq] at hs
    subst hs
    trivial
  | some n =>
    obtain ⟨i, h1, rfl⟩ := Option.map_eq_some_iff.mp hs
    obtain ⟨q1, q2, _⟩ := locSlot_ok h h1
    exact ⟨q1, q2⟩
theorem hd_ok {rec : Cfg → Stmt → Option S} (hr : SRec rec g T k) (h : XOk X g T W md c k) {hd : ExceptHandler} {j : Nat} {ni : Option Nat} {Hb : List S} (hs : cHd c rec hd = some (j, ni, Hb)) :
    ∃ x np n b su pos' C, hd = .ExceptHandler (some (.Name x np)) n (b :: su) pos' ∧ ClsAt X g x j C ∧ NameAt X n ni ∧
      ∀ (a : Addr) (oe : Obj) (cls : Value) (d : Option Addr) (pn : List (Addr × Obj)), Zc cls d oe → (∃ vs, oe.data = .fields vs) → PSs (X.suite a ((a, oe) :: pn)) (b :: su) (tR g W0 (sMd ni a cls d) (evB T Hb)) := by
  unfold cHd at hs
  split at hs
  · rename_i x np n b su pos'
    split at hs
    · rename_i j' C' ni' h1 h2
      split at hs
      · rename_i Hb' h3
        cases hs
        obtain ⟨Ca, q1, _⟩ := exCls_ok h h1
        exact ⟨x, np, n, b, su, pos', Ca, rfl, q1, nm_ok h h2, fun a oe cls d pn hz hv => body_ok hr (h.suite a oe cls d pn hz hv) ⟨fun z => by cases z⟩ h3⟩
      · cases hs
    · cases hs
  · cases hs
theorem try_ok {rec : Cfg → Stmt → Option S} (hr : SRec rec g T k) (h : XOk X g T W md c k) (hx : XSt X c) (hst : c.stm = true) (hc : c.calm = true) (hn : c.exc = false) (hxs : c.xs = none) {b : List Stmt} {hs : List ExceptHandler} (hh : cTry c rec b hs = some st) : PS X (.Try b hs [] [] pos) (tR g W md (evS T st)) := by
  obtain ⟨c1, c2, c3⟩ := h.calm hc
  obtain ⟨p1, p2, p3⟩ := hx.stm hst
  have e0 := md_no h hxs
  subst e0
  have hb : ∀ {B : List S}, mapO (rec c) b = some B → ∀ (W : WX) (pn : List (Addr × Obj)) (xe : Value → Shared → Prop), Takes (X.tr pn xe) W → PassesOwn (model X.prog X.w) X.A X.env xe → PSs (X.tr pn xe) b (tR g W .no (evB T B)) :=
    fun hB W pn xe tk po => body_ok hr (h.tr W pn xe tk hn) ⟨fun _ => ⟨po, p2, p3⟩⟩ hB
  unfold cTry at hh
  split at hh
  · split at hh
    · rename_i B j ni Hb h1 h2
      cases hh
      obtain ⟨x, np, n, b₀, su, pos', C, rfl, q1, q2, q3⟩ := hd_ok hr h h2
      exact sp_try1 p2 p3 h.nd c2 h.exc h.K h.TP q1 q2 (hb h1) q3
    · cases hh
  · split at hh
    · rename_i B j ni Hb j' ni' Hb' h1 h2 h3
      cases hh
      obtain ⟨x, np, n, b₀, su, pos', C, rfl, q1, q2, q3⟩ := hd_ok hr h h2
      obtain ⟨x', np', n', b₀', su', pos'', C', rfl, q1', q2', q3'⟩ := hd_ok hr h h3
      exact sp_try2 p2 p3 h.nd c2 h.exc h.K h.TP q1 q2 q1' q2' (hb h1) q3 q3'
    · cases hh
  · cases hh
/-- THE COMPILER IS SOUND for statements -/
theorem compS_ok : ∀ (n : Nat), SRec (compS n) g T k
  | 0, X, W, md, c, s, S', h, hx, hs => by simp only [compS] at hs; cases hs
  | n + 1, X, W, md, c, s, S', h, hx, hs => by
    have hr : SRec (compS n) g T k := compS_ok n
    have he : RecOk (compE 40 c) X g T W md := compE_ok 40 X W md c h
    simp only [compS] at hs
    split at hs
    · cases hs; exact sp_pass
    · cases hs; exact sp_brk
    · cases hs; exact sp_cnt
    · cases hs; exact sp_retN
    · obtain ⟨A, h1, rfl⟩ := Option.map_eq_some_iff.mp hs
      exact sp_ret (he _ _ h1).pe
    · split at hs
      · rename_i hn
        obtain ⟨A, h1, rfl⟩ := Option.map_eq_some_iff.mp hs
        exact sp_expr hn (he _ _ h1).pe
      · cases hs
    · split at hs
      · rename_i C A B h1 h2 h3
        cases hs
        exact sp_ite (he _ _ h1).pt (body_ok hr h hx h2) (body_ok hr h hx h3)
      · cases hs
    · split at hs
      · rename_i hk
        rw [Bool.and_eq_true] at hk
        have e0 := List.isEmpty_iff.mp hk.2
        subst e0
        split at hs
        · rename_i C B h1 h2
          cases hs
          exact sp_while (hx.stm hk.1).1 (he _ _ h1).pt (body_ok hr h hx h2)
        · cases hs
      · cases hs
    · split at hs
      · rename_i hk
        rw [Bool.and_eq_true, Bool.and_eq_true] at hk
        obtain ⟨k1, k2, k3⟩ := hk
        have e0 := List.isEmpty_iff.mp k3
        subst e0
        split at hs
        · rename_i J TG B h1 h2 h3
          cases hs
          obtain ⟨q1, q2⟩ := tg_ok h (h.calm k2).1 h2
          obtain ⟨i1, i2⟩ := it_ok h he h1
          exact sp_for (hx.stm k1).1 (h.calm k2).1 i2 q2 i1 q1 (body_ok hr h hx h3)
        · cases hs
      · cases hs
    · split at hs
      · exact asg_ok h (fun X W md c hx => compE_ok 40 X W md c hx) hs
      · cases hs
    · split at hs
      · split at hs
        · rename_i hc
          exact raise_ok h hc hs
        · cases hs
      · cases hs
    · split at hs
      · rename_i hk
        simp only [Bool.and_eq_true, Bool.not_eq_true', Option.isNone_iff_eq_none] at hk
        obtain ⟨k1, k2, k3, k4, k5, k6⟩ := hk
        have e1 := List.isEmpty_iff.mp k5
        have e2 := List.isEmpty_iff.mp k6
        subst e1 e2
        exact try_ok hr h hx k1 k2 k3 k4 hs
      · cases hs
    · cases hs
end
end Mch

/-! ## The defs of a text keep what the machine says -/
namespace Mch
open PySem PySem.Spec PyProof.Rows L2
/-- a def: where it stands, its parameters, its slots, its defaults as the machine has them -/
structure FS where
  d : He.DefD
  ps : List Str
  N : List Str
/-- a text -/
structure Txt' where
  fs : List FS
  cls : List Str
  blts : List Str
  P : Prog
def dvM : He.Dv → Option MV
  | .non => some .non
  | .bl b => some (.bl b)
  | .int i => some (.int i)
  | .str s => some (.str s)
  | _ => none
def numb (l : List Str) (i : Nat) : List (Str × Nat) := match l with
  | [] => []
  | x :: r => (x, i) :: numb r (i + 1)
theorem numb_ok : ∀ {l : List Str} {i j : Nat} {x : Str}, (numb l i).lookup x = some j → ∃ k, j = i + k ∧ l[k]? = some x
  | [], i, j, x, h => by cases h
  | y :: r, i, j, x, h => by
    unfold numb at h
    rw [List.lookup_cons] at h
    split at h
    · rename_i e
      cases h
      exact ⟨0, rfl, by simp [eq_of_beq e]⟩
    · obtain ⟨k, h1, h2⟩ := numb_ok h
      exact ⟨k + 1, by omega, by simpa using h2⟩
/-- a name that stands for a def of the top; a method stands under none -/
def FS.nm (F : FS) : Str := match F.d.at_.2 with
  | none => F.d.at_.1
  | some _ => ""
def Txt'.glob (S : Txt') (K : PySem.W.Frag) : Glob := ⟨K, fun f => match S.fs[f]? with
  | some F => if F.d.at_.2.isNone then some (He.fAd K F.d.at_) else none
  | none => none, fun c => (S.cls[c]?).map (He.ga K), S.P⟩
def Txt'.cfg (S : Txt') (F : FS) : Cfg := { N := F.N, sc := F.d.scope, fns := S.fs.map FS.nm, cls := numb S.cls 0, blts := S.blts, P := S.P }
/-! ### the facts of the head -/
def nmB : List String := ["NoneType", "bool", "int", "str", "tuple", "list"]
def tyB : List TyR := [.int, .bool, .str, .list, .tuple, .dict]
def insB (K : PySem.W.Frag) (C : Addr) : Bool := decide (PySem.W.findIn K (.ref C) "__class__" = some (some (.builtin "object.__class__"))) && (decide (PySem.W.specialIn K (.builtin "object.__class__") "__get__" = some (some (.builtin "getset_descriptor.__get__"))) &&
  (decide (PySem.W.takesIn K (.builtin "object.__class__") = some true) && decide (PySem.W.mroIn K C (.type "object") = some true)))
def upB (S : Txt') (K : PySem.W.Frag) (q : Value → Value → Option Bool) (C : Addr) (Cl : ClsM) (l : List Str) (j : Nat) : Bool := match l with
  | [] => true
  | y :: r => decide (q (.ref C) (.ref (He.ga K y)) = some (decide (j ∈ Cl.up))) && upB S K q C Cl r (j + 1)
def excB (S : Txt') (K : PySem.W.Frag) (C : Addr) (Cl : ClsM) (l : List Str) (j : Nat) : Bool := match l with
  | [] => true
  | y :: r => (match S.P.clss[j]? with
    | some Dl => if Dl.exc then decide (PySem.W.exmOne K (.ref C) (.ref (He.ga K y)) = some (decide (j ∈ Cl.up))) else true
    | none => true) && excB S K C Cl r (j + 1)
def clsB (S : Txt') (K : PySem.W.Frag) (x : Str) (Cl : ClsM) : Bool :=
  (He.Fa.glo x).ok K && ((nmB.all fun n => decide (PySem.W.kitOne K (.type n) (.ref (He.ga K x)) = some false)) &&
  ((if Cl.exc then xfB K (He.ga K x) && ((Cl.fields.all fun f => decide (PySem.W.findIn K (.ref (He.ga K x)) f = some none)) && ((PySem.W.keepIn K (.ref (He.ga K x)) && (decide (PySem.W.subIn K (.ref (He.ga K x)) (.type "BaseException") = some true) && decide (PySem.W.typeIn K (.ref (He.ga K x)) = some (.type "type")))) &&
      ((if Cl.fields = [] then PySem.W.excIn K (He.ga K x) He.veBase "ValueError.__new__" else true) && excB S K (He.ga K x) Cl S.cls 0)))
    else (tyB.all fun t => decide (PySem.W.kitOne K (.ref (He.ga K x)) (.type (tyNm t)) = some false)) && ((He.Fa.cls x).ok K && (insB K (He.ga K x) && upB S K (PySem.W.kitOne K) (He.ga K x) Cl S.cls 0))) &&
  (if Cl.init.isSome then (He.Fa.cls x).ok K && Cl.fields.all fun f => (He.Fa.noat x f).ok K else true)))
def clssB (S : Txt') (K : PySem.W.Frag) : List Str → List ClsM → Bool
  | [], [] => true
  | x :: xs, C :: Cs => clsB S K x C && clssB S K xs Cs
  | _, _ => false
def Txt'.ck (S : Txt') (K : PySem.W.Frag) : Bool := (S.fs.all fun F => if F.d.at_.2.isNone then (He.Fa.glo F.d.at_.1).ok K else true) && ((S.blts.all fun b => (He.Fa.free b).ok K) && clssB S K S.cls S.P.clss)
section
variable {S : Txt'} {K : PySem.W.Frag} {base : Heap} {mg : Str → Option Value}
theorem clss_get : ∀ {xs : List Str} {Cs : List ClsM}, clssB S K xs Cs = true → ∀ {i : Nat} {C : ClsM}, Cs[i]? = some C → ∃ x, xs[i]? = some x ∧ clsB S K x C = true
  | [], [], _, i, C, h => by simp at h
  | [], _ :: _, h, _, _, _ => by cases h
  | _ :: _, [], h, _, _, _ => by cases h
  | x :: xs, D :: Cs, h, i, C, hc => by
    obtain ⟨h1, h2⟩ := He.ba (show (clsB S K x D && clssB S K xs Cs) = true from h)
    cases i with
    | zero =>
      simp at hc
      subst hc
      exact ⟨x, rfl, h1⟩
    | succ i => exact clss_get h2 (i := i) (by simpa using hc)
theorem up_get {q : Value → Value → Option Bool} {C : Addr} {Cl : ClsM} : ∀ {l : List Str} {j : Nat}, upB S K q C Cl l j = true → ∀ {i : Nat} {y : Str}, l[i]? = some y → q (.ref C) (.ref (He.ga K y)) = some (decide (j + i ∈ Cl.up))
  | [], j, _, i, y, h => by simp at h
  | z :: r, j, h, i, y, hy => by
    obtain ⟨h1, h2⟩ := He.ba (show (decide (q (.ref C) (.ref (He.ga K z)) = some (decide (j ∈ Cl.up))) && upB S K q C Cl r (j + 1)) = true from h)
    cases i with
    | zero =>
      simp at hy
      subst hy
      exact of_decide_eq_true h1
    | succ i =>
      have := up_get h2 (i := i) (y := y) (by simpa using hy)
      rw [this]
      congr 2
      rw [show j + 1 + i = j + (i + 1) by omega]
theorem exc_get {C : Addr} {Cl : ClsM} : ∀ {l : List Str} {j : Nat}, excB S K C Cl l j = true → ∀ {i : Nat} {y : Str} {Dl : ClsM}, l[i]? = some y → S.P.clss[j + i]? = some Dl → Dl.exc = true → PySem.W.exmOne K (.ref C) (.ref (He.ga K y)) = some (decide (j + i ∈ Cl.up))
  | [], j, _, i, y, _, h, _, _ => by simp at h
  | z :: r, j, h, i, y, Dl, hy, hD, he => by
    obtain ⟨h1, h2⟩ := He.ba (show ((match S.P.clss[j]? with
    | some Dl => if Dl.exc then decide (PySem.W.exmOne K (.ref C) (.ref (He.ga K z)) = some (decide (j ∈ Cl.up))) else true
    | none => true) && excB S K C Cl r (j + 1)) = true from h)
    cases i with
    | zero =>
      simp at hy
      subst hy
      rw [show j + 0 = j from rfl] at hD ⊢
      rw [hD] at h1
      simp only [he, if_true] at h1
      exact of_decide_eq_true h1
    | succ i =>
      have e : j + 1 + i = j + (i + 1) := by omega
      have := exc_get h2 (i := i) (y := y) (Dl := Dl) (by simpa using hy) (by rw [e]; exact hD) he
      rw [this, e]
/-- a class's facts -/
theorem cls_get (h : S.ck K = true) {c : Nat} {C : Addr} {Cl : ClsM} (hc : (S.glob K).cA c = some C) (hl : S.P.clss[c]? = some Cl) : ∃ x, S.cls[c]? = some x ∧ C = He.ga K x ∧ clsB S K x Cl = true := by
  obtain ⟨_, h⟩ := He.ba h
  obtain ⟨_, h⟩ := He.ba h
  obtain ⟨x, h1, h2⟩ := clss_get h hl
  have hc : (S.cls[c]?).map (He.ga K) = some C := hc
  rw [h1] at hc
  cases hc
  exact ⟨x, h1, rfl, h2⟩
theorem cls_len : ∀ {xs : List Str} {Cs : List ClsM}, clssB S K xs Cs = true → ∀ {i : Nat} {x : Str}, xs[i]? = some x → ∃ C, Cs[i]? = some C
  | [], [], _, i, x, h => by simp at h
  | [], _ :: _, h, _, _, _ => by cases h
  | _ :: _, [], h, _, _, _ => by cases h
  | x :: xs, D :: Cs, h, i, y, hc => by
    obtain ⟨h1, h2⟩ := He.ba (show (clsB S K x D && clssB S K xs Cs) = true from h)
    cases i with
    | zero => exact ⟨D, rfl⟩
    | succ i =>
      obtain ⟨C, hC⟩ := cls_len h2 (i := i) (x := y) (by simpa using hc)
      exact ⟨C, by simpa using hC⟩
theorem cls_any (h : S.ck K = true) {c : Nat} {C : Addr} (hc : (S.glob K).cA c = some C) : ∃ Cl, S.P.clss[c]? = some Cl := by
  obtain ⟨_, h⟩ := He.ba h
  obtain ⟨_, h⟩ := He.ba h
  have hc : (S.cls[c]?).map (He.ga K) = some C := hc
  obtain ⟨x, h1, _⟩ := Option.map_eq_some_iff.mp hc
  exact cls_len h h1
theorem nm_mem {n : String} (h : n ∈ ["NoneType", "bool", "int", "str", "tuple", "list"]) : n ∈ nmB := h
theorem ty_mem {t : TyR} (h : ∀ c, t ≠ .cls c) : t ∈ tyB := by
  cases t with
  | cls c => exact absurd rfl (h c)
  | _ => simp [tyB]
theorem kit_ok (h : S.ck K = true) : KitG (S.glob K) where
  b2o := fun n hn c C hc => by
    obtain ⟨Cl, hl⟩ := cls_any h hc
    obtain ⟨x, _, rfl, h2⟩ := cls_get h hc hl
    obtain ⟨_, h2⟩ := He.ba h2
    obtain ⟨h3, _⟩ := He.ba h2
    exact of_decide_eq_true (List.all_eq_true.mp h3 n (nm_mem hn))
  o2b := fun t ht c C Cl hc hl he => by
    obtain ⟨x, _, rfl, h2⟩ := cls_get h hc hl
    obtain ⟨_, h2⟩ := He.ba h2
    obtain ⟨_, h2⟩ := He.ba h2
    obtain ⟨h2, _⟩ := He.ba h2
    rw [if_neg (by rw [he]; exact Bool.false_ne_true)] at h2
    obtain ⟨h3, _⟩ := He.ba h2
    exact of_decide_eq_true (List.all_eq_true.mp h3 t (ty_mem ht))
  ins := fun c C Cl hc hl he H a dx fs hH => by
    obtain ⟨x, _, rfl, h2⟩ := cls_get h hc hl
    obtain ⟨_, h2⟩ := He.ba h2
    obtain ⟨_, h2⟩ := He.ba h2
    obtain ⟨h2, _⟩ := He.ba h2
    rw [if_neg (by rw [he]; exact Bool.false_ne_true)] at h2
    obtain ⟨_, h2⟩ := He.ba h2
    obtain ⟨k1, h2⟩ := He.ba h2
    obtain ⟨k2, _⟩ := He.ba h2
    obtain ⟨i1, i2⟩ := He.ba k2
    obtain ⟨i2, i3⟩ := He.ba i2
    obtain ⟨i3, i4⟩ := He.ba i3
    exact .ins hH (He.cls_ok k1) (of_decide_eq_true i1) (of_decide_eq_true i2) (of_decide_eq_true i3) (of_decide_eq_true i4)
  o2o := fun c d C D Cl hc hd hl he => by
    obtain ⟨x, _, rfl, h2⟩ := cls_get h hc hl
    obtain ⟨_, h2⟩ := He.ba h2
    obtain ⟨_, h2⟩ := He.ba h2
    obtain ⟨h2, _⟩ := He.ba h2
    rw [if_neg (by rw [he]; exact Bool.false_ne_true)] at h2
    obtain ⟨_, h2⟩ := He.ba h2
    obtain ⟨_, h2⟩ := He.ba h2
    obtain ⟨_, k⟩ := He.ba h2
    have hd : (S.cls[d]?).map (He.ga K) = some D := hd
    obtain ⟨y, hy, rfl⟩ := Option.map_eq_some_iff.mp hd
    have := up_get k hy
    rw [Nat.zero_add] at this
    exact this
theorem excG_ok (h : S.ck K = true) : ExcG (S.glob K) where
  exm := fun c d C D Cl Dl hc hd hl hm he hf => by
    obtain ⟨x, _, rfl, h2⟩ := cls_get h hc hl
    obtain ⟨_, h2⟩ := He.ba h2
    obtain ⟨_, h2⟩ := He.ba h2
    obtain ⟨h2, _⟩ := He.ba h2
    rw [if_pos he] at h2
    obtain ⟨_, h2⟩ := He.ba h2
    obtain ⟨_, h2⟩ := He.ba h2
    obtain ⟨_, h2⟩ := He.ba h2
    obtain ⟨_, h2⟩ := He.ba h2
    have hd : (S.cls[d]?).map (He.ga K) = some D := hd
    obtain ⟨y, hy, rfl⟩ := Option.map_eq_some_iff.mp hd
    have := exc_get h2 (i := d) (y := y) (Dl := Dl) hy (by rw [Nat.zero_add]; exact hm) hf
    rw [Nat.zero_add] at this
    exact this
  fld := fun c C Cl hc hl he => by
    obtain ⟨x, _, rfl, h2⟩ := cls_get h hc hl
    obtain ⟨_, h2⟩ := He.ba h2
    obtain ⟨_, h2⟩ := He.ba h2
    obtain ⟨h2, _⟩ := He.ba h2
    rw [if_pos he] at h2
    obtain ⟨h3, h2⟩ := He.ba h2
    obtain ⟨h4, _⟩ := He.ba h2
    exact ⟨xfB_ok h3, fun f hf => of_decide_eq_true (List.all_eq_true.mp h4 f hf)⟩
  own := fun c C Cl hc hl he => by
    obtain ⟨x, _, rfl, h2⟩ := cls_get h hc hl
    obtain ⟨_, h2⟩ := He.ba h2
    obtain ⟨_, h2⟩ := He.ba h2
    obtain ⟨h2, _⟩ := He.ba h2
    rw [if_pos he] at h2
    obtain ⟨_, h2⟩ := He.ba h2
    obtain ⟨_, h2⟩ := He.ba h2
    obtain ⟨h5, _⟩ := He.ba h2
    obtain ⟨h6, h5⟩ := He.ba h5
    obtain ⟨h7, h8⟩ := He.ba h5
    exact ⟨h6, of_decide_eq_true h7, of_decide_eq_true h8⟩
  new := fun c C Cl hc hl he hf => by
    obtain ⟨x, _, rfl, h2⟩ := cls_get h hc hl
    obtain ⟨_, h2⟩ := He.ba h2
    obtain ⟨_, h2⟩ := He.ba h2
    obtain ⟨h2, _⟩ := He.ba h2
    rw [if_pos he] at h2
    obtain ⟨_, h2⟩ := He.ba h2
    obtain ⟨_, h2⟩ := He.ba h2
    obtain ⟨_, h2⟩ := He.ba h2
    obtain ⟨h3, _⟩ := He.ba h2
    rw [if_pos hf] at h3
    exact h3
theorem fld_ok (h : S.ck K = true) : ∀ d C Cl, (S.glob K).cA d = some C → S.P.clss[d]? = some Cl → Cl.init.isSome = true → L2.Cls K C ∧ ∀ f ∈ Cl.fields, NoAttr K C f := fun d C Cl hc hl hi => by
  obtain ⟨x, _, rfl, h2⟩ := cls_get h hc hl
  obtain ⟨_, h2⟩ := He.ba h2
  obtain ⟨_, h2⟩ := He.ba h2
  obtain ⟨_, h2⟩ := He.ba h2
  rw [if_pos hi] at h2
  obtain ⟨h3, h4⟩ := He.ba h2
  exact ⟨He.cls_ok h3, fun f hf => He.noat_ok (List.all_eq_true.mp h4 f hf)⟩
theorem clsn_ok (hin : K.In base) (hns : base.Ns mainGlobals mg) (h : S.ck K = true) : ∀ x j, (numb S.cls 0).lookup x = some j → ∃ C, (S.glob K).cA j = some C ∧ mg x = some (.ref C) := fun x j hj => by
  obtain ⟨i, h1, h2⟩ := numb_ok hj
  rw [Nat.zero_add] at h1
  subst h1
  have hc : (S.glob K).cA j = some (He.ga K x) := by
    show (S.cls[j]?).map _ = _
    rw [h2]
    rfl
  obtain ⟨Cl, hl⟩ := cls_any h hc
  obtain ⟨y, q1, q2, q3⟩ := cls_get h hc hl
  rw [h2] at q1
  cases q1
  exact ⟨_, hc, He.glo_ok hin hns (He.ba q3).1⟩
theorem blt_ok (hin : K.In base) (hns : base.Ns mainGlobals mg) (h : S.ck K = true) : ∀ x, x ∈ S.blts → mg x = none := fun x hx => by
  obtain ⟨_, h⟩ := He.ba h
  obtain ⟨h, _⟩ := He.ba h
  exact He.free_ok hin hns (List.all_eq_true.mp h x hx)
theorem glo_of (hin : K.In base) (hns : base.Ns mainGlobals mg) (h : S.ck K = true) {f : Nat} {F : FS} (hf : S.fs[f]? = some F) (hg : F.d.at_.2 = none) : mg F.d.at_.1 = some (.ref (He.fAd K F.d.at_)) := by
  obtain ⟨h, _⟩ := He.ba h
  have := List.all_eq_true.mp h F (List.mem_of_getElem? hf)
  rw [hg] at this
  have := He.glo_ok hin hns (show (He.Fa.glo F.d.at_.1).ok K = true from this)
  rw [this]
  show _ = some (Value.ref (He.fAd K F.d.at_))
  unfold He.fAd
  rw [hg]
end
end Mch

/-! ## Every def of a text does what the machine says; the law -/
namespace Mch
open PySem PySem.Spec PyProof.Rows L2
def fnScB (N ps : List Str) (sc : Scope) : Bool := decide (sc.kind = .function) && (!sc.isCoroutine && (!sc.isGenerator && (decide N.Nodup && (decide (N.take ps.length = ps) && ((ps.all fun x => decide (sc.names.lookup x = some .local) || decide (sc.names.lookup x = some .cell)) && sc.names.all fun y => !decide (y.2 = .free))))))
theorem fnSc_ok {N ps : List Str} {sc : Scope} (h : fnScB N ps sc = true) : FnScope N ps sc := by
  unfold fnScB at h
  simp only [Bool.and_eq_true, decide_eq_true_eq, Bool.not_eq_true', List.all_eq_true, Bool.or_eq_true, decide_eq_false_iff_not] at h
  obtain ⟨h1, h2, h3, h4, h5, h6, h7⟩ := h
  exact ⟨h1, h2, h3, h4, h5, h6, h7⟩
def BindP (F : FS) : Prop := ∀ (K : PySem.W.Frag) (fd : FuncData) (f : Addr), FunD K F.d.name F.d.qual F.d.params F.d.body F.d.scope (F.d.dvs K) (F.d.kws K) f fd → ∀ m, m ≤ (F.d.dvs K).length → ∃ ds, Vals ((F.d.dvs K).drop m) ds ∧ Binds K fd F.ps ds
theorem bind0 {F : FS} (h1 : F.d.dfl = []) (h2 : F.d.kwd = []) (h : ∀ (kV doc pm : Value) (an : Option Addr) (cdv ct : Value) (us : List Value), us.length = F.ps.length → bindArgs (PySem.W.fnOf F.d.name F.d.qual F.d.params F.d.body F.d.scope .none kV doc pm an cdv ct) ⟨us, []⟩ = pure (F.ps.zip us)) : BindP F := by
  intro K fd f hF m hm
  have e1 : F.d.dvs K = [] := by unfold He.DefD.dvs; rw [h1]; rfl
  have e2 : F.d.kws K = [] := by unfold He.DefD.kws; rw [h2]; rfl
  rw [e1, e2] at hF
  rw [e1]
  exact ⟨[], by simpa using (Paired.nil : Paired RelV [] []), hF.bindsN h⟩
structure CmpP (S : Txt') (F : FS) (D : Def) : Prop where
  body : mapO (compS 40 (S.cfg F)) F.d.body = some D.body
  np : D.np = F.ps.length
  ns : D.ns = F.N.length
  dfl : mapO dvM F.d.dfl = some D.dfl
  kwd : F.d.kwd = []
  sc : fnScB F.N F.ps F.d.scope = true
def AllC (S : Txt') : List FS → List Def → Prop
  | [], [] => True
  | F :: Fs, D :: Ds => CmpP S F D ∧ AllC S Fs Ds
  | _, _ => False
def AllB : List FS → Prop
  | [] => True
  | F :: Fs => BindP F ∧ AllB Fs
theorem allC_get {S : Txt'} : ∀ {Fs : List FS} {Ds : List Def}, AllC S Fs Ds → ∀ {f : Nat} {F : FS}, Fs[f]? = some F → ∃ D, Ds[f]? = some D ∧ CmpP S F D
  | [], [], _, f, F, h => by simp at h
  | [], _ :: _, h, _, _, _ => h.elim
  | _ :: _, [], h, _, _, _ => h.elim
  | F :: Fs, D :: Ds, h, f, G, hf => by
    cases f with
    | zero =>
      simp at hf
      subst hf
      exact ⟨D, rfl, h.1⟩
    | succ f =>
      obtain ⟨E, h1, h2⟩ := allC_get h.2 (f := f) (F := G) (by simpa using hf)
      exact ⟨E, by simpa using h1, h2⟩
theorem allB_get : ∀ {Fs : List FS}, AllB Fs → ∀ {f : Nat} {F : FS}, Fs[f]? = some F → BindP F
  | [], _, f, F, h => by simp at h
  | F :: Fs, h, f, G, hf => by
    cases f with
    | zero =>
      simp at hf
      subst hf
      exact h.1
    | succ f => exact allB_get h.2 (f := f) (F := G) (by simpa using hf)
theorem dv_ok {g : Glob} {K : PySem.W.Frag} : ∀ {ds : List He.Dv} {xs : List MV}, mapO dvM ds = some xs → ∀ φ G, RVs g φ G xs (ds.map (He.Dv.v K))
  | [], xs, h, φ, G => by
    simp only [mapO, Option.some.injEq] at h
    subst h
    exact rvs_nil
  | d :: ds, xs, h, φ, G => by
    simp only [mapO] at h
    split at h
    · rename_i x xs' h1 h2
      cases h
      refine rvs_cons ?_ (dv_ok h2 φ G)
      cases d <;> simp only [dvM, Option.some.injEq, reduceCtorEq] at h1 <;> subst h1 <;> simp only [RV, He.Dv.v]
    · cases h
section
variable {g : Glob} {T : Tab} {D : Def}
theorem full_eq {xs : List MV} (h : xs.length = D.np) : fullArgs D xs = xs := by
  unfold fullArgs
  rw [h, Nat.sub_self, Nat.sub_zero, List.drop_length, List.append_nil]
theorem slots_ok {φ : List Addr} {G H : Hp} {xs : List MV} {vs : List V} {N : List Str} (h : RVs g φ G xs vs) (hn : D.ns = N.length) : RSt g φ G H .no (slots D xs) (L2.start N vs) := by
  refine ⟨⟨?_, fun i v e _ => ?_⟩, trivial⟩
  · unfold slots L2.start
    rw [List.length_append, List.length_append, List.length_map, List.length_map, List.length_replicate, List.length_replicate, h.len, hn]
  · unfold slots at e
    unfold L2.start
    by_cases hi : i < xs.length
    · rw [List.getElem?_append_left (by simpa using hi), List.getElem?_map] at e
      cases e1 : xs[i]? with
      | none => rw [e1] at e; cases e
      | some x =>
        rw [e1] at e
        simp only [Option.map_some, Option.some.injEq] at e
        subst e
        obtain ⟨w, h1, h2⟩ := h.get e1
        exact ⟨w, by rw [List.getElem?_append_left (by simp [← h.len]; exact hi), List.getElem?_map, h1]; rfl, h2⟩
    · rw [List.getElem?_append_right (by simpa using hi), List.getElem?_replicate] at e
      split at e <;> cases e
theorem run_ok {φ : List Addr} {G H : Hp} {μ : Mem} {xs : List MV} {vs : List V} {N : List Str} {Q : VK} {Ex : XK} (sb : Sub G H) (r : Rel g φ G μ) (h : RVs g φ G xs vs) (hn : D.ns = N.length) (hl : xs.length = D.np)
    (hg : Good g (fun cls dd _ H1 => Ex cls dd H1) [] φ G H (runD T D xs μ) (kE g Q)) : tR g (fun cls dd _ H1 => Ex cls dd H1) .no (evB T D.body) { nx := fun _ H' => Q .non H', rt := Q } (L2.start N vs) H := by
  refine ⟨φ, G, μ, slots D xs, sb, r, slots_ok h hn, ?_⟩
  unfold runD at hg
  rw [full_eq hl, if_pos hl] at hg
  revert hg
  cases evB T D.body (slots D xs) μ with
  | no => exact fun hg => hg
  | exc x σ μ1 => exact fun hg φ1 G1 H1 σ' e1 r1 _ => hg φ1 G1 H1 e1 r1
  | ok f μ1 => cases f with
    | next σ => exact fun hg φ1 G1 H1 σ' e1 r1 _ => hg φ1 G1 H1 e1 r1 _ (by simp only [RV])
    | ret v => exact fun hg φ1 G1 H1 w e1 r1 hw => hg φ1 G1 H1 e1 r1 w hw
    | brk σ => exact fun hg => hg.elim
    | cnt σ => exact fun hg => hg.elim
theorem nm_get {S : Txt'} {x : Str} {f : Nat} (hx : x ≠ "") (h : ixOf x (S.fs.map FS.nm) = some f) : ∃ F, S.fs[f]? = some F ∧ F.d.at_.2 = none ∧ F.d.at_.1 = x := by
  have h := ixOf_get h
  rw [List.getElem?_map] at h
  obtain ⟨F, h1, h2⟩ := Option.map_eq_some_iff.mp h
  refine ⟨F, h1, ?_⟩
  unfold FS.nm at h2
  split at h2
  · exact ⟨by assumption, h2⟩
  · exact absurd h2.symm hx
section
variable {S : Txt'} {P : Program} {w : World} {K : PySem.W.Frag} {mg : Str → Option Value} {base : Heap} {n d : Nat}
theorem tabP (n d : Nat) : (tabD S.P n d).P = S.P := by cases d <;> rfl
theorem call_is {f : Nat} (hD : S.P.defs[f]? = some D) (xs : List MV) (μ : Mem) : (tabD S.P n (d + 1)).call f xs μ = runD (tabD S.P n d) D xs μ := by
  show (match S.P.defs[f]? with
    | some D => runD (tabD S.P n d) D xs μ
    | none => .no) = _
  rw [hD]
theorem call_full {f : Nat} (hD : S.P.defs[f]? = some D) (xs : List MV) (μ : Mem) (h : (fullArgs D xs).length = D.np) : (tabD S.P n d).call f xs μ = (tabD S.P n d).call f (fullArgs D xs) μ := by
  cases d with
  | zero => rfl
  | succ d =>
    rw [call_is hD, call_is hD]
    unfold runD
    rw [full_eq h]
theorem call_np {f : Nat} (hD : S.P.defs[f]? = some D) (xs : List MV) (μ : Mem) (z : (tabD S.P n d).call f xs μ ≠ .no) : (fullArgs D xs).length = D.np := by
  cases d with
  | zero => exact absurd rfl z
  | succ d =>
    rw [call_is hD] at z
    unfold runD at z
    by_cases e : (fullArgs D xs).length = D.np
    · exact e
    · rw [if_neg e] at z
      exact absurd rfl z
theorem glob_fA {f : Nat} {F : FS} (hF : S.fs[f]? = some F) (ha : F.d.at_.2 = none) : (S.glob K).fA f = some (He.fAd K F.d.at_) := by
  show (match S.fs[f]? with
    | some F => if F.d.at_.2.isNone then some (He.fAd K F.d.at_) else none
    | none => none) = _
  rw [hF]
  simp [ha]
/-- a def of the top, as it is called -/
theorem funOk_of (hin : K.In base) (hns : base.Ns mainGlobals mg) (hck : S.ck K = true) (hfd : ∀ (f : Nat) (F : FS), S.fs[f]? = some F → ∃ fd, FunD K F.d.name F.d.qual F.d.params F.d.body F.d.scope (F.d.dvs K) (F.d.kws K) (He.fAd K F.d.at_) fd)
    (hc : AllC S S.fs S.P.defs) (hb : AllB S.fs) (hFn : ∀ (f : Nat) (F : FS) (fd : FuncData), S.fs[f]? = some F → FunD K F.d.name F.d.qual F.d.params F.d.body F.d.scope (F.d.dvs K) (F.d.kws K) (He.fAd K F.d.at_) fd → FnOk P w K mg base (L2.CX P w) d (He.fAd K F.d.at_) fd F.ps (spM (S.glob K) (tabD S.P n d) f)) :
    ∀ (f : Nat) (F : FS), S.fs[f]? = some F → F.d.at_.2 = none → FunOk (S.glob K) (tabD S.P n d) P w K mg base d F.d.at_.1 f := by
  intro f F hF ha
  obtain ⟨fd, FD⟩ := hfd f F hF
  obtain ⟨D, hD, C⟩ := allC_get hc hF
  exact ⟨He.fAd K F.d.at_, fd, F.ps, F.d.dvs K, D, glob_fA hF ha, glo_of hin hns hck hF ha, FD.kp, by rw [tabP]; exact hD, fun φ G => dv_ok C.dfl φ G, allB_get hb hF K fd _ FD, hFn f F fd hF FD, call_full hD, call_np hD⟩
/-- EVERY DEF -/
theorem fns_ok (hin : K.In base) (hns : base.Ns mainGlobals mg) (hck : S.ck K = true) (hfd : ∀ (f : Nat) (F : FS), S.fs[f]? = some F → ∃ fd, FunD K F.d.name F.d.qual F.d.params F.d.body F.d.scope (F.d.dvs K) (F.d.kws K) (He.fAd K F.d.at_) fd)
    (hc : AllC S S.fs S.P.defs) (hb : AllB S.fs) (n : Nat) : ∀ (d f : Nat) (F : FS) (fd : FuncData), S.fs[f]? = some F → FunD K F.d.name F.d.qual F.d.params F.d.body F.d.scope (F.d.dvs K) (F.d.kws K) (He.fAd K F.d.at_) fd → FnOk P w K mg base (L2.CX P w) d (He.fAd K F.d.at_) fd F.ps (spM (S.glob K) (tabD S.P n d) f) := by
  intro d
  induction d with
  | zero =>
    intro f F fd hF FD
    refine ⟨fun vs H Q E h => ?_, fun A outer s H args us vs Q E _ _ _ _ h => ?_⟩
    · obtain ⟨φ, G, μ, xs, D', _, _, _, _, _, z⟩ := h
      exact z.elim
    · obtain ⟨φ, G, μ, xs, D', _, _, _, _, _, z⟩ := h
      exact z.elim
  | succ d ih =>
    intro f F fd hF FD
    have FO := funOk_of hin hns hck hfd hc hb ih
    obtain ⟨D, hD, C⟩ := allC_get hc hF
    refine FD.ok (fnSc_ok C.sc) (fun vs H Q E h => ?_) fun cdv A outer s H vs Q E hr h => ⟨tR (S.glob K) (fun cls dd _ H1 => E cls dd H1) .no (evB (tabD S.P n d) D.body), ?_, ?_⟩
    · obtain ⟨φ, G, μ, xs, D', _, _, h1, h2, h3, _⟩ := h
      rw [tabP] at h2
      rw [hD] at h2
      cases h2
      rw [← h1.len, h3, C.np]
    · have fsc := fnSc_ok C.sc
      refine body_ok (k := d) (c := S.cfg F) (rec := compS 40) (compS_ok 40) ?_ ⟨fun _ => ⟨passes_of (X := cxOf (L2.CX P w) P w K mg base F.N F.d.qual F.d.scope (He.fAd K F.d.at_) cdv A outer s H E) rfl, rfl, rfl⟩⟩ C.body
      have funs : ∀ (x : Str) f, x ≠ "" → ixOf x (S.fs.map FS.nm) = some f → FunOk (S.glob K) (tabD S.P n d) P w K mg base d x f := fun (x : Str) f hx h => by
        obtain ⟨F', h1, h2, h3⟩ := nm_get hx h
        rw [← h3]
        exact FO f F' h1 h2
      have fadr : ∀ f a, (S.glob K).fA f = some a → ∃ x, FunOk (S.glob K) (tabD S.P n d) P w K mg base d x f := fun f a h => by
        have h : (match S.fs[f]? with
          | some F => if F.d.at_.2.isNone then some (He.fAd K F.d.at_) else none
          | none => none) = some a := h
        split at h
        · rename_i F' hF'
          split at h
          · rename_i hn
            exact ⟨_, FO f F' hF' (by simpa using hn)⟩
          · cases h
        · cases h
      exact ⟨rfl, fsc.nd, rfl, fsc.kind, fun _ => rfl, rfl, tabP n d, rfl, hr.units, kit_ok hck, excG_ok hck, fld_ok hck, fun _ => ⟨rfl, takes_of (X := cxOf (L2.CX P w) P w K mg base F.N F.d.qual F.d.scope (He.fAd K F.d.at_) cdv A outer s H E) rfl rfl rfl rfl, hr⟩, funs, fadr, clsn_ok hin hns hck, blt_ok hin hns hck, fun _ => rfl, .inl ⟨rfl, fun _ _ _ _ z => by cases z⟩⟩
    · obtain ⟨φ, G, μ, xs, D', sb, r, h1, h2, h3, h4⟩ := h
      rw [tabP] at h2
      rw [hD] at h2
      cases h2
      rw [call_is hD] at h4
      exact run_ok sb r h1 C.ns h3 h4
end
end
end Mch

/-! ## The head and the law's end -/
namespace Mch
open PySem PySem.Spec PyProof.Rows L2
def obsM (S : Txt') (K : PySem.W.Frag) : He.AlD := (S.ck K && S.fs.all fun F => F.d.ok K, S.fs.map fun F => He.fnW K F.d.at_)
def valM (S : Txt') : He.AlD := (true, S.fs.map fun F => F.d.val)
def SaysM (S : Txt') (K : PySem.W.Frag) : Prop := obsM S K = valM S
def obsMG (n : Nat) (S : Txt') (g : Addr → Option Obj) : He.AlD := obsM S (He.frG g (He.asD g n))
def hookM (n : Nat) (S : Txt') : PySem.W.Hook where
  α := He.AlD
  obs := fun s => obsMG n S s.heap.get?
  val := fun _ => valM S
  says := fun _ h => ∃ K : PySem.W.Frag, K.In h ∧ SaysM S K
  of := fun _ _ e => ⟨_, He.frG_in, e⟩
  keeps := fun _ _ _ ⟨K, hK, c⟩ k => ⟨K, PySem.W.Frag.In.keeps hK k, c⟩
theorem obsMG_eq {n : Nat} {S : Txt'} {g : Addr → Option Obj} {s : Shared} (h : ∀ a, g a = s.heap.get? a) : obsMG n S g = (hookM n S).obs s := by
  have e : g = s.heap.get? := funext h
  rw [e] <;> rfl
section
variable {S : Txt'} {K : PySem.W.Frag}
theorem SaysM.ck (c : SaysM S K) : S.ck K = true := (He.ba (show (S.ck K && S.fs.all fun F => F.d.ok K) = true from congrArg (fun z : He.AlD => z.1) c)).1
theorem SaysM.fd (c : SaysM S K) (f : Nat) (F : FS) (h : S.fs[f]? = some F) : ∃ fd, FunD K F.d.name F.d.qual F.d.params F.d.body F.d.scope (F.d.dvs K) (F.d.kws K) (He.fAd K F.d.at_) fd := by
  have c2 := (He.ba (show (S.ck K && S.fs.all fun F => F.d.ok K) = true from congrArg (fun z : He.AlD => z.1) c)).2
  have e : S.fs.map (fun F => He.fnW K F.d.at_) = S.fs.map fun F => F.d.val := congrArg (fun z : He.AlD => z.2) c
  have e2 : (S.fs.map fun F => He.fnW K F.d.at_)[f]? = (S.fs.map fun F => F.d.val)[f]? := by rw [e]
  rw [List.getElem?_map, List.getElem?_map, h] at e2
  exact He.DefD.funD (Option.some.inj e2) (List.all_eq_true.mp c2 F (List.mem_of_getElem? h))
end
/-- the script as the machine has it -/
theorem script_rv {g : Glob} {H : Hp} {a : Addr} {ns : List Int} (hO : Only H) (hS : SqL g.K H a (ns.map V.int)) : ∃ φ, Rel g φ H [.frz (ns.map MV.int)] ∧ RVs g φ H [.ref 0] [.ref a] := by
  refine ⟨[a], ⟨rfl, fun i j b c d h1 h2 h3 h4 m1 m2 => ?_, fun i b c h1 h2 => ?_⟩, rvs_cons (by simp only [RV]; exact ⟨a, rfl, rfl⟩) rvs_nil⟩
  · cases i with
    | zero => simp at h3; subst h3; cases m1
    | succ i => simp at h3
  · cases i with
    | succ i => simp at h2
    | zero =>
      simp at h1 h2
      subst h1 h2
      refine ⟨ns.map V.int, ?_, ?_⟩
      · rcases hS with (h | ⟨o, h⟩) | ⟨o, its, n, h⟩
        · rcases hO a with z | ⟨o, xs, z⟩ <;> rw [h] at z <;> cases z
        · exact .inl ⟨o, h⟩
        · exact .inr fun G1 => .inr ⟨o, its, n, h⟩
      · refine rvs_iff.mpr ⟨by simp, fun i x v e1 e2 => ?_⟩
        rw [List.getElem?_map] at e1 e2
        cases e : ns[i]? with
        | none => rw [e] at e1; cases e1
        | some z =>
          rw [e] at e1 e2
          cases e1
          cases e2
          simp only [RV]
/-- A LAW OF A TEXT: what the machine's run of the def li gives at every script -/
theorem walk_ofM {S : Txt'} {l : PySem.W.OpenLaw} {n m k N li : Nat} {q : Program} {loose : List Str} {XP : (Str → Option Value) → Heap → Prop} {d : DefRec} {x : Str} {F : FS}
    (hn : l.most = some n) (hn2 : n ≤ sizeLine) (hdf : d.params.defaults = []) (hr : Room k callerA) (hF : S.fs[li]? = some F) (ha : F.d.at_ = (d.name, none)) (hps : F.ps = [x]) (hdl : F.d.dfl = [])
    (hbd : ∀ (K : PySem.W.Frag) (fd : FuncData) (f : Addr), FunD K F.d.name F.d.qual F.d.params F.d.body F.d.scope [] [] f fd → ∀ (s : Shared) (u : Value), BindsTo s fd ⟨[u], []⟩ [(x, u)])
    (hc : AllC S S.fs S.P.defs) (hb : AllB S.fs)
    (run : ∀ ns : List Int, ns.length ≤ n → (∀ z ∈ ns, Builtin.Int.intBits z ≤ 1048576) → ∃ μ, (tabD S.P N k).call li [.ref 0] [.frz (ns.map MV.int)] = .ok (.bl true) μ) :
    PySem.W.WalkO q loose XP (hookM m S).says l.row.toRowW d [] (fun f vs => PySem.call f vs) := by
  refine Att.attach_callB hn hdf fun w s₀ s₁ mg mb fa o pm cd doc a vs ns G Y ho hd hcd hmg hobj hints hlen hbits hg => ?_
  obtain ⟨K, KX, c⟩ := Y
  obtain ⟨D, hD, C⟩ := allC_get hc hF
  have hfd := c.fd
  have ck := c.ck
  obtain ⟨fd, FD⟩ := c.fd li F hF
  have e1 : F.d.dvs K = [] := by unfold He.DefD.dvs; rw [hdl]; rfl
  have e2 : F.d.kws K = [] := by unfold He.DefD.kws; rw [C.kwd]; rfl
  rw [e1, e2] at FD
  have efa : He.fAd K F.d.at_ = fa := by
    have := glo_of KX G.T.g ck hF (by rw [ha])
    rw [ha] at this
    rw [hmg] at this
    cases this
    rw [ha]
  have FO : ∀ base : Heap, K.In base → base.Ns mainGlobals mg → FnOk l.prog w K mg base (L2.CX l.prog w) k fa fd [x] (spM (S.glob K) (tabD S.P N k) li) := fun base h1 h2 => by
    have := fns_ok (P := l.prog) (w := w) h1 h2 ck hfd hc hb N k li F fd hF (by rw [e1, e2]; exact FD)
    rw [efa, hps] at this
    exact this
  rw [efa] at FD
  refine law_call (k := k) (sp := spM (S.glob K) (tabD S.P N k) li) (CX := L2.CX l.prog w) KX G.T.g G.T.b G.T.builtins G.T.nolimit hg hobj hints (Nat.le_trans hlen hn2) hr FO (hbd K fd fa FD) (fun H hO hS => ?_) fun H e s' z => ?_
  · obtain ⟨φ, r, rv⟩ := script_rv (g := S.glob K) hO hS
    obtain ⟨μ, hrun⟩ := run ns hlen hbits
    have hT : (tabD S.P N k).P = S.P := by cases k <;> rfl
    refine ⟨φ, H, [.frz (ns.map MV.int)], [.ref 0], D, fun _ _ h => h, r, rv, by rw [hT]; exact hD, by rw [C.np, hps]; rfl, ?_⟩
    rw [hrun]
    intro φ1 G1 H1 e1 r1 w' hw
    simpa only [RV] using hw
  · obtain ⟨_, _, _, _, _, _, _, _, _, _, _, _, z⟩ := z
    exact z
end Mch

/-! ## k00: the program of the machine -/
namespace Mch.k00
open PySem L2 Mch
/- is_integer(0 value) -/
def d0 : Def := ⟨1, [], 1, [
  .ret (.and (.isin (.var 0) [.int]) (.not (.isin (.var 0) [.bool])))]⟩
/- is_count(0 value, 1 low, 2 high) -/
def d1 : Def := ⟨3, [], 3, [
  .ret (.and (.call 0 [(.var 0)]) (.cmp2 .LtE .LtE (.var 1) (.var 0) (.var 2)))]⟩
/- check_count(0 value, 1 low, 2 high) -/
def d2 : Def := ⟨3, [], 3, [
  .ite (.not (.call 1 [(.var 0), (.var 1), (.var 2)])) [.raise 1 [(.str "a number")]] []]⟩
/- is_whole_row(0 value, 1 x) -/
def d3 : Def := ⟨1, [], 2, [
  .ret (.and (.isin (.var 0) [.tuple]) (.bi .all [(.comp (.call 0 [(.var 1)]) (.var 1) (.var 0) (.bl true) [1])]))]⟩
/- common(0 a, 1 b) -/
def d4 : Def := ⟨2, [], 2, [
  .asg (.tup [(.var 0), (.var 1)]) (.tup [(.bi .abs [(.var 0)]), (.bi .abs [(.var 1)])]),
  .while (.cmp .Gt (.var 1) (.int 0)) [.asg (.tup [(.var 0), (.var 1)]) (.tup [(.var 1), (.bin .Mod (.var 0) (.var 1))])],
  .ret (.var 0)]⟩
/- bezout(0 a, 1 b, 2 x, 3 y, 4 u, 5 v, 6 q) -/
def d5 : Def := ⟨2, [], 7, [
  .asg (.tup [(.var 2), (.var 3), (.var 4), (.var 5)]) (.tup [(.int 1), (.int 0), (.int 0), (.int 1)]),
  .while (.cmp .NotEq (.var 1) (.int 0)) [.asg (.var 6) (.bin .FloorDiv (.var 0) (.var 1)), .asg (.tup [(.var 0), (.var 1), (.var 2), (.var 3), (.var 4), (.var 5)]) (.tup [(.var 1), (.bin .Sub (.var 0) (.bin .Mult (.var 6) (.var 1))), (.var 4), (.var 5), (.bin .Sub (.var 2) (.bin .Mult (.var 6) (.var 4))), (.bin .Sub (.var 3) (.bin .Mult (.var 6) (.var 5)))])],
  .ret (.ite (.cmp .GtE (.var 0) (.int 0)) (.tup [(.var 0), (.var 2), (.var 3)]) (.tup [(.neg (.var 0)), (.neg (.var 2)), (.neg (.var 3))]))]⟩
/- least_multiple(0 row, 1 found, 2 x) -/
def d6 : Def := ⟨1, [], 3, [
  .asg (.var 1) (.int 1),
  .for (.var 2) (.var 0) [.asg (.var 1) (.bin .Mult (.bin .FloorDiv (.var 1) (.call 4 [(.var 1), (.var 2)])) (.var 2))],
  .ret (.var 1)]⟩
/- divisors(0 n, 1 d) -/
def d7 : Def := ⟨1, [], 2, [
  .ret (.comp (.var 1) (.var 1) (.rng [(.int 1), (.bin .Add (.var 0) (.int 1))]) (.cmp .Eq (.bin .Mod (.var 0) (.var 1)) (.int 0)) [1])]⟩
/- is_prime(0 value, 1 d) -/
def d8 : Def := ⟨1, [], 2, [
  .ret (.and (.call 1 [(.var 0), (.int 2), (.int 1000)]) (.bi .all [(.comp (.cmp .NotEq (.bin .Mod (.var 0) (.var 1)) (.int 0)) (.var 1) (.rng [(.int 2), (.var 0)]) (.bl true) [1])]))]⟩
/- power(0 a, 1 k, 2 found, 3 _) -/
def d9 : Def := ⟨2, [], 4, [
  .asg (.var 2) (.int 1),
  .for (.var 3) (.rng [(.var 1)]) [.asg (.var 2) (.bin .Mult (.var 2) (.var 0))],
  .ret (.var 2)]⟩
/- sign_of(0 x) -/
def d10 : Def := ⟨1, [], 1, [
  .ret (.bin .Sub (.bi .int [(.cmp .Gt (.var 0) (.int 0))]) (.bi .int [(.cmp .Lt (.var 0) (.int 0))]))]⟩
/- rows_to(0 wide, 1 low, 2 high, 3 found, 4 _, 5 own, 6 x) -/
def d11 : Def := ⟨3, [], 7, [
  .asg (.var 3) (.lst [(.tup [])]),
  .for (.var 4) (.rng [(.var 0)]) [.asg (.var 3) (.comp2 (.bin .Add (.var 5) (.tup [(.var 6)])) (.var 5) (.var 3) (.bl true) (.var 6) (.rng [(.var 1), (.bin .Add (.var 2) (.int 1))]) (.bl true) [5, 6] [6])],
  .ret (.var 3)]⟩
/- row_text(0 row, 1 x) -/
def d12 : Def := ⟨1, [], 2, [
  .ret (.ite (.cmp .Gt (.bi .len [(.var 0)]) (.int 0)) (.mth .join (.str ",") [(.comp (.bi .str [(.var 1)]) (.var 1) (.var 0) (.bl true) [1])]) (.str "-"))]⟩
/- _law_state(0 script, 1 seed, 2 total, 3 cell) -/
def d13 : Def := ⟨1, [], 4, [
  .asg (.var 1) (.int 0),
  .asg (.var 2) (.int 1),
  .for (.var 3) (.slc (.var 0) .non (.int 63)) [.asg (.var 1) (.bin .Add (.bin .Mult (.var 1) (.int 1000003)) (.bi .abs [(.var 3)])), .asg (.var 2) (.bin .Mod (.bi .int [(.bin .Add (.bin .Mult (.var 2) (.int 48271)) (.var 3))]) (.int 2147483647))],
  .ret (.lst [(.var 1), (.ite (.cmp .NotEq (.var 2) (.int 1973665155)) (.var 2) (.int 7))])]⟩
/- _law_take(0 state, 1 m, 2 value) -/
def d14 : Def := ⟨2, [], 3, [
  .ite (.cmp .Gt (.idx (.var 0) (.int 0)) (.int 0)) [.asg (.var 2) (.bin .Mod (.bi .int [(.idx (.var 0) (.int 0))]) (.var 1)), .asg (.idx (.var 0) (.int 0)) (.bin .FloorDiv (.idx (.var 0) (.int 0)) (.var 1)), .ret (.var 2)] [],
  .asg (.idx (.var 0) (.int 1)) (.bin .Mod (.bi .int [(.bin .Add (.bin .Mult (.idx (.var 0) (.int 1)) (.int 48271)) (.int 11))]) (.int 2147483647)),
  .ret (.bin .Mod (.bi .int [(.bin .FloorDiv (.idx (.var 0) (.int 1)) (.int 7))]) (.var 1))]⟩
/- _law_says(0 value, 1 due) -/
def d15 : Def := ⟨2, [], 2, [
  .ret (.and (.isin (.var 0) [.bool]) (.cmp .Eq (.var 0) (.var 1)))]⟩
/- _law_is_whole(0 value) -/
def d16 : Def := ⟨1, [], 1, [
  .ret (.and (.isin (.var 0) [.int]) (.not (.isin (.var 0) [.bool])))]⟩
/- _law_same(0 one, 1 two, 2 k) -/
def d17 : Def := ⟨2, [], 3, [
  .ite (.isin (.var 1) [.tuple]) [.ret (.and (.isin (.var 0) [.tuple]) (.and (.cmp .Eq (.bi .len [(.var 0)]) (.bi .len [(.var 1)])) (.bi .all [(.comp (.call 17 [(.idx (.var 0) (.var 2)), (.idx (.var 1) (.var 2))]) (.var 2) (.rng [(.bi .len [(.var 1)])]) (.bl true) [2])])))] [],
  .ite (.isin (.var 1) [.str]) [.ret (.and (.isin (.var 0) [.str]) (.cmp .Eq (.var 0) (.var 1)))] [],
  .ite (.cmp .Is (.var 1) .non) [.ret (.cmp .Is (.var 0) .non)] [],
  .ret (.and (.call 16 [(.var 0)]) (.cmp .Eq (.var 0) (.var 1)))]⟩
/- _law_common(0 a, 1 b) -/
def d18 : Def := ⟨2, [], 2, [
  .while (.cmp .NotEq (.var 1) (.int 0)) [.asg (.tup [(.var 0), (.var 1)]) (.tup [(.var 1), (.bin .Mod (.bi .int [(.var 0)]) (.var 1))])],
  .ret (.bi .abs [(.var 0)])]⟩
/- _law_result(0 act, 1 given, 2 refused) -/
def d19 : Def := ⟨2, [], 3, [
  .try2 [.ite (.cmp .Eq (.bi .len [(.var 1)]) (.int 1)) [.ret (.tup [(.str "told"), (.callv 0 [(.idx (.var 1) (.int 0))])])] [], .ite (.cmp .Eq (.bi .len [(.var 1)]) (.int 2)) [.ret (.tup [(.str "told"), (.callv 0 [(.idx (.var 1) (.int 0)), (.idx (.var 1) (.int 1))])])] [], .ite (.cmp .Eq (.bi .len [(.var 1)]) (.int 3)) [.ret (.tup [(.str "told"), (.callv 0 [(.idx (.var 1) (.int 0)), (.idx (.var 1) (.int 1)), (.idx (.var 1) (.int 2))])])] [], .ite (.cmp .Eq (.bi .len [(.var 1)]) (.int 4)) [.ret (.tup [(.str "told"), (.callv 0 [(.idx (.var 1) (.int 0)), (.idx (.var 1) (.int 1)), (.idx (.var 1) (.int 2)), (.idx (.var 1) (.int 3))])])] [], .ret (.tup [(.str "told"), (.callv 0 [(.idx (.var 1) (.int 0)), (.idx (.var 1) (.int 1)), (.idx (.var 1) (.int 2)), (.idx (.var 1) (.int 3)), (.idx (.var 1) (.int 4))])])] 1 none [.ret (.tup [(.str "malformed"), .non])] 2 (some 2) [.ret (.tup [(.str "refused"), (.xfld 2 "reason")])]]⟩
/- law(0 script, 1 state, 2 value, 3 raised, 4 turn, 5 row, 6 least, 7 last, 8 rows, 9 own, 10 low, 11 high, 12 whole, 13 good, 14 inside, 15 prime, 16 a, 17 b, 18 k, 19 n, 20 g, 21 x, 22 y, 23 wide, 24 first, 25 longer, 26 d, 27 m) -/
def d20 : Def := ⟨1, [], 28, [
  .asg (.var 1) (.call 13 [(.var 0)]),
  .asg (.tup [(.var 10), (.var 11)]) (.tup [(.bin .Sub (.call 14 [(.var 1), (.int 9)]) (.int 4)), (.bin .Sub (.call 14 [(.var 1), (.int 9)]) (.int 2))]),
  .for (.var 2) (.lst [(.int 0), (.int 3), (.neg (.int 2)), (.bl true), .non, (.str "1"), (.tup []), (.tup [(.int 1), (.int 2)]), (.tup [(.int 2), (.bl true)]), (.lst [(.int 1)]), (.tup [(.int 1), (.str "0")]), (.var 10), (.bin .Add (.var 11) (.int 1)), (.int 997), (.int 1000), (.int 1009)]) [.asg (.var 12) (.call 16 [(.var 2)]), .asg (.var 13) (.and (.isin (.var 2) [.tuple]) (.bi .all [(.comp (.call 16 [(.var 21)]) (.var 21) (.var 2) (.bl true) [21])])), .asg (.var 14) (.ite (.var 12) (.cmp2 .LtE .LtE (.var 10) (.var 2) (.var 11)) (.bl false)), .asg (.var 15) (.and (.var 12) (.and (.cmp2 .LtE .LtE (.int 2) (.var 2) (.int 1000)) (.bi .all [(.comp (.cmp .NotEq (.bin .Mod (.var 2) (.var 26)) (.int 0)) (.var 26) (.rng [(.int 2), (.var 2)]) (.bl true) [26])]))), .ite (.or (.not (.call 15 [(.call 0 [(.var 2)]), (.var 12)])) (.or (.not (.call 15 [(.call 1 [(.var 2), (.var 10), (.var 11)]), (.var 14)])) (.or (.not (.call 15 [(.call 3 [(.var 2)]), (.var 13)])) (.not (.call 15 [(.call 8 [(.var 2)]), (.var 15)]))))) [.ret (.bl false)] [], .ite (.cmp .Eq (.cmp .Eq (.idx (.call 19 [(.fn 2), (.tup [(.var 2), (.var 10), (.var 11)])]) (.int 0)) (.str "malformed")) (.var 14)) [.ret (.bl false)] []],
  .asg (.tup [(.var 16), (.var 17), (.var 18), (.var 19)]) (.tup [(.bin .Sub (.call 14 [(.var 1), (.int 241)]) (.int 120)), (.bin .Sub (.call 14 [(.var 1), (.int 241)]) (.int 120)), (.call 14 [(.var 1), (.int 9)]), (.bin .Add (.int 1) (.call 14 [(.var 1), (.int 60)]))]),
  .asg (.var 3) (.int 1),
  .for (.var 4) (.rng [(.var 18)]) [.asg (.var 3) (.bin .Mult (.var 3) (.var 16))],
  .asg (.tup [(.var 20), (.var 21), (.var 22)]) (.call 5 [(.var 16), (.var 17)]),
  .ite (.or (.not (.call 17 [(.call 4 [(.var 16), (.var 17)]), (.call 18 [(.var 16), (.var 17)])])) (.or (.cmp .NotEq (.var 20) (.call 18 [(.var 16), (.var 17)])) (.or (.cmp .NotEq (.bin .Add (.bin .Mult (.var 16) (.var 21)) (.bin .Mult (.var 17) (.var 22))) (.var 20)) (.not (.call 17 [(.call 9 [(.var 16), (.var 18)]), (.var 3)]))))) [.ret (.bl false)] [],
  .ite (.not (.call 17 [(.call 10 [(.var 16)]), (.ite (.cmp .Gt (.var 16) (.int 0)) (.int 1) (.ite (.cmp .Lt (.var 16) (.int 0)) (.neg (.int 1)) (.int 0)))])) [.ret (.bl false)] [],
  .asg (.var 5) (.comp (.bin .Add (.int 1) (.call 14 [(.var 1), (.int 12)])) (.var 4) (.rng [(.call 14 [(.var 1), (.int 4)])]) (.bl true) [4]),
  .asg (.var 6) (.call 6 [(.var 5)]),
  .ite (.or (.bi .any [(.comp (.cmp .NotEq (.bin .Mod (.var 6) (.var 21)) (.int 0)) (.var 21) (.var 5) (.bl true) [21])]) (.bi .any [(.comp (.bi .all [(.comp (.cmp .Eq (.bin .Mod (.var 27) (.var 21)) (.int 0)) (.var 21) (.var 5) (.bl true) [21])]) (.var 27) (.rng [(.int 1), (.var 6)]) (.bl true) [27])])) [.ret (.bl false)] [],
  .ite (.cmp .NotEq (.call 7 [(.var 19)]) (.comp (.var 26) (.var 26) (.rng [(.int 1), (.bin .Add (.var 19) (.int 1))]) (.cmp .Eq (.bin .Mod (.var 19) (.var 26)) (.int 0)) [26])) [.ret (.bl false)] [],
  .asg (.tup [(.var 23), (.var 24)]) (.tup [(.call 14 [(.var 1), (.int 4)]), (.bin .Sub (.call 14 [(.var 1), (.int 5)]) (.int 2))]),
  .asg (.var 7) (.bin .Add (.var 24) (.call 14 [(.var 1), (.int 4)])),
  .asg (.var 8) (.lst [(.tup [])]),
  .for (.var 4) (.rng [(.var 23)]) [.asg (.var 25) (.lst []), .for (.var 9) (.var 8) [.asg (.var 25) (.bin .Add (.var 25) (.comp (.bin .Add (.var 9) (.tup [(.var 21)])) (.var 21) (.rng [(.var 24), (.bin .Add (.var 7) (.int 1))]) (.bl true) [21]))], .asg (.var 8) (.var 25)],
  .ite (.or (.cmp .NotEq (.call 11 [(.var 23), (.var 24), (.var 7)]) (.var 8)) (.cmp .NotEq (.call 11 [(.int 0), (.int 1), (.int 0)]) (.lst [(.tup [])]))) [.ret (.bl false)] [],
  .asg (.var 9) (.comp (.bin .Sub (.call 14 [(.var 1), (.int 9)]) (.int 4)) (.var 4) (.rng [(.call 14 [(.var 1), (.int 5)])]) (.bl true) [4]),
  .ret (.cmp .Eq (.call 12 [(.bi .tuple [(.var 9)])]) (.ite (.cmp .Gt (.bi .len [(.var 9)]) (.int 0)) (.mth .join (.str ",") [(.comp (.bi .str [(.var 21)]) (.var 21) (.var 9) (.bl true) [21])]) (.str "-")))]⟩
def clss : List ClsM := [{ fields := [], init := none, meths := [], up := [0], exc := true },
  { fields := [], init := none, meths := [], up := [1, 0], exc := true },
  { fields := ["reason"], init := none, meths := [], up := [2, 0], exc := true }]
def defs : List Def := [d0, d1, d2, d3, d4, d5, d6, d7, d8, d9, d10, d11, d12, d13, d14, d15, d16, d17, d18, d19, d20]
def prog : Prog := ⟨defs, clss, []⟩
end Mch.k00

set_option maxHeartbeats 0
/-! ## k00: the text and the machine's program -/
namespace Mch.k00
open PySem PySem.Spec PyProof.Rows L2 Mch
abbrev prg : Program := (PySem.Challenge.rw_tetraroads_k00_whole_integers_of_gluings).prog
def top (i : Nat) : Stmt := prg.main.body.getD i (.Pass ⟨0, 0, 0, 0⟩)
abbrev dd (a : Str × Option Str) (q : Str) (s : Stmt) (l : List He.Dv) : He.DefD := ⟨a, a.2.getD a.1, q, defArgs s, defBody s, defScope s, l, []⟩
abbrev f0 : FS := ⟨dd ("is_integer", none) "is_integer" (top 5) [], ["value"], ["value"]⟩
abbrev f1 : FS := ⟨dd ("is_count", none) "is_count" (top 6) [], ["value", "low", "high"], ["value", "low", "high"]⟩
abbrev f2 : FS := ⟨dd ("check_count", none) "check_count" (top 7) [], ["value", "low", "high"], ["value", "low", "high"]⟩
abbrev f3 : FS := ⟨dd ("is_whole_row", none) "is_whole_row" (top 8) [], ["value"], ["value", "x"]⟩
abbrev f4 : FS := ⟨dd ("common", none) "common" (top 9) [], ["a", "b"], ["a", "b"]⟩
abbrev f5 : FS := ⟨dd ("bezout", none) "bezout" (top 10) [], ["a", "b"], ["a", "b", "x", "y", "u", "v", "q"]⟩
abbrev f6 : FS := ⟨dd ("least_multiple", none) "least_multiple" (top 11) [], ["row"], ["row", "found", "x"]⟩
abbrev f7 : FS := ⟨dd ("divisors", none) "divisors" (top 12) [], ["n"], ["n", "d"]⟩
abbrev f8 : FS := ⟨dd ("is_prime", none) "is_prime" (top 13) [], ["value"], ["value", "d"]⟩
abbrev f9 : FS := ⟨dd ("power", none) "power" (top 14) [], ["a", "k"], ["a", "k", "found", "_"]⟩
abbrev f10 : FS := ⟨dd ("sign_of", none) "sign_of" (top 15) [], ["x"], ["x"]⟩
abbrev f11 : FS := ⟨dd ("rows_to", none) "rows_to" (top 16) [], ["wide", "low", "high"], ["wide", "low", "high", "found", "_", "own", "x"]⟩
abbrev f12 : FS := ⟨dd ("row_text", none) "row_text" (top 17) [], ["row"], ["row", "x"]⟩
abbrev f13 : FS := ⟨dd ("_law_state", none) "_law_state" (top 19) [], ["script"], ["script", "seed", "total", "cell"]⟩
abbrev f14 : FS := ⟨dd ("_law_take", none) "_law_take" (top 20) [], ["state", "m"], ["state", "m", "value"]⟩
abbrev f15 : FS := ⟨dd ("_law_says", none) "_law_says" (top 21) [], ["value", "due"], ["value", "due"]⟩
abbrev f16 : FS := ⟨dd ("_law_is_whole", none) "_law_is_whole" (top 22) [], ["value"], ["value"]⟩
abbrev f17 : FS := ⟨dd ("_law_same", none) "_law_same" (top 23) [], ["one", "two"], ["one", "two", "k"]⟩
abbrev f18 : FS := ⟨dd ("_law_common", none) "_law_common" (top 24) [], ["a", "b"], ["a", "b"]⟩
abbrev f19 : FS := ⟨dd ("_law_result", none) "_law_result" (top 25) [], ["act", "given"], ["act", "given", "refused"]⟩
abbrev f20 : FS := ⟨dd ("law", none) "law" (top 26) [], ["script"], ["script", "state", "value", "raised", "turn", "row", "least", "last", "rows", "own", "low", "high", "whole", "good", "inside", "prime", "a", "b", "k", "n", "g", "x", "y", "wide", "first", "longer", "d", "m"]⟩
abbrev fs : List FS := [f0, f1, f2, f3, f4, f5, f6, f7, f8, f9, f10, f11, f12, f13, f14, f15, f16, f17, f18, f19, f20]
abbrev clsN : List Str := ["Fault", "Malformed", "Refused"]
abbrev blts : List Str := ["abs", "len", "all", "any", "int", "str", "tuple", "range", "isinstance", "bool", "ValueError"]
abbrev Sp : Txt' := ⟨fs, clsN, blts, prog⟩
theorem b0 : BindP f0 := bind0 rfl rfl fun _ _ _ _ _ _ us hl => match us, hl with | [_], _ => rfl
theorem c0 : CmpP Sp f0 d0 := ⟨by kernel_rfl, rfl, rfl, rfl, rfl, by kernel_rfl⟩
theorem b1 : BindP f1 := bind0 rfl rfl fun _ _ _ _ _ _ us hl => match us, hl with | [_, _, _], _ => rfl
theorem c1 : CmpP Sp f1 d1 := ⟨by kernel_rfl, rfl, rfl, rfl, rfl, by kernel_rfl⟩
theorem b2 : BindP f2 := bind0 rfl rfl fun _ _ _ _ _ _ us hl => match us, hl with | [_, _, _], _ => rfl
theorem c2 : CmpP Sp f2 d2 := ⟨by kernel_rfl, rfl, rfl, rfl, rfl, by kernel_rfl⟩
theorem b3 : BindP f3 := bind0 rfl rfl fun _ _ _ _ _ _ us hl => match us, hl with | [_], _ => rfl
theorem c3 : CmpP Sp f3 d3 := ⟨by kernel_rfl, rfl, rfl, rfl, rfl, by kernel_rfl⟩
theorem b4 : BindP f4 := bind0 rfl rfl fun _ _ _ _ _ _ us hl => match us, hl with | [_, _], _ => rfl
theorem c4 : CmpP Sp f4 d4 := ⟨by kernel_rfl, rfl, rfl, rfl, rfl, by kernel_rfl⟩
theorem b5 : BindP f5 := bind0 rfl rfl fun _ _ _ _ _ _ us hl => match us, hl with | [_, _], _ => rfl
theorem c5 : CmpP Sp f5 d5 := ⟨by kernel_rfl, rfl, rfl, rfl, rfl, by kernel_rfl⟩
theorem b6 : BindP f6 := bind0 rfl rfl fun _ _ _ _ _ _ us hl => match us, hl with | [_], _ => rfl
theorem c6 : CmpP Sp f6 d6 := ⟨by kernel_rfl, rfl, rfl, rfl, rfl, by kernel_rfl⟩
theorem b7 : BindP f7 := bind0 rfl rfl fun _ _ _ _ _ _ us hl => match us, hl with | [_], _ => rfl
theorem c7 : CmpP Sp f7 d7 := ⟨by kernel_rfl, rfl, rfl, rfl, rfl, by kernel_rfl⟩
theorem b8 : BindP f8 := bind0 rfl rfl fun _ _ _ _ _ _ us hl => match us, hl with | [_], _ => rfl
theorem c8 : CmpP Sp f8 d8 := ⟨by kernel_rfl, rfl, rfl, rfl, rfl, by kernel_rfl⟩
theorem b9 : BindP f9 := bind0 rfl rfl fun _ _ _ _ _ _ us hl => match us, hl with | [_, _], _ => rfl
theorem c9 : CmpP Sp f9 d9 := ⟨by kernel_rfl, rfl, rfl, rfl, rfl, by kernel_rfl⟩
theorem b10 : BindP f10 := bind0 rfl rfl fun _ _ _ _ _ _ us hl => match us, hl with | [_], _ => rfl
theorem c10 : CmpP Sp f10 d10 := ⟨by kernel_rfl, rfl, rfl, rfl, rfl, by kernel_rfl⟩
theorem b11 : BindP f11 := bind0 rfl rfl fun _ _ _ _ _ _ us hl => match us, hl with | [_, _, _], _ => rfl
theorem c11 : CmpP Sp f11 d11 := ⟨by kernel_rfl, rfl, rfl, rfl, rfl, by kernel_rfl⟩
theorem b12 : BindP f12 := bind0 rfl rfl fun _ _ _ _ _ _ us hl => match us, hl with | [_], _ => rfl
theorem c12 : CmpP Sp f12 d12 := ⟨by kernel_rfl, rfl, rfl, rfl, rfl, by kernel_rfl⟩
theorem b13 : BindP f13 := bind0 rfl rfl fun _ _ _ _ _ _ us hl => match us, hl with | [_], _ => rfl
theorem c13 : CmpP Sp f13 d13 := ⟨by kernel_rfl, rfl, rfl, rfl, rfl, by kernel_rfl⟩
theorem b14 : BindP f14 := bind0 rfl rfl fun _ _ _ _ _ _ us hl => match us, hl with | [_, _], _ => rfl
theorem c14 : CmpP Sp f14 d14 := ⟨by kernel_rfl, rfl, rfl, rfl, rfl, by kernel_rfl⟩
theorem b15 : BindP f15 := bind0 rfl rfl fun _ _ _ _ _ _ us hl => match us, hl with | [_, _], _ => rfl
theorem c15 : CmpP Sp f15 d15 := ⟨by kernel_rfl, rfl, rfl, rfl, rfl, by kernel_rfl⟩
theorem b16 : BindP f16 := bind0 rfl rfl fun _ _ _ _ _ _ us hl => match us, hl with | [_], _ => rfl
theorem c16 : CmpP Sp f16 d16 := ⟨by kernel_rfl, rfl, rfl, rfl, rfl, by kernel_rfl⟩
theorem b17 : BindP f17 := bind0 rfl rfl fun _ _ _ _ _ _ us hl => match us, hl with | [_, _], _ => rfl
theorem c17 : CmpP Sp f17 d17 := ⟨by kernel_rfl, rfl, rfl, rfl, rfl, by kernel_rfl⟩
theorem b18 : BindP f18 := bind0 rfl rfl fun _ _ _ _ _ _ us hl => match us, hl with | [_, _], _ => rfl
theorem c18 : CmpP Sp f18 d18 := ⟨by kernel_rfl, rfl, rfl, rfl, rfl, by kernel_rfl⟩
theorem b19 : BindP f19 := bind0 rfl rfl fun _ _ _ _ _ _ us hl => match us, hl with | [_, _], _ => rfl
theorem c19 : CmpP Sp f19 d19 := ⟨by kernel_rfl, rfl, rfl, rfl, rfl, by kernel_rfl⟩
theorem b20 : BindP f20 := bind0 rfl rfl fun _ _ _ _ _ _ us hl => match us, hl with | [_], _ => rfl
theorem c20 : CmpP Sp f20 d20 := ⟨by kernel_rfl, rfl, rfl, rfl, rfl, by kernel_rfl⟩
theorem allC : AllC Sp fs defs := ⟨c0, c1, c2, c3, c4, c5, c6, c7, c8, c9, c10, c11, c12, c13, c14, c15, c16, c17, c18, c19, c20, trivial⟩
theorem allB : AllB fs := ⟨b0, b1, b2, b3, b4, b5, b6, b7, b8, b9, b10, b11, b12, b13, b14, b15, b16, b17, b18, b19, b20, trivial⟩
end Mch.k00

set_option maxHeartbeats 0
/-! ## k00: the head -/
namespace Mch.k00
open PySem PySem.Spec PyProof.Rows L2 Mch
abbrev RW : PySem.W.OpenLaw := PySem.Challenge.rw_tetraroads_k00_whole_integers_of_gluings
abbrev RR : PySem.W.OpenRow := PySem.W.OpenLaw.row RW
abbrev hk : PySem.W.Hook := hookM 5 Sp
def ob (s : PySem.W.SharedT) : He.AlD := obsMG 5 Sp (HandSHeadRun.getT s)
theorem ob_eq (s : PySem.W.SharedT) : ob s = hk.obs s.abs := obsMG_eq (HandSHeadRun.getT_eq s)
theorem headRun (w : World) : HandSHeadRun.RunEq RR (PySem.W.view RR.prog [26]) hk ob 4000 ["Fault", "Malformed", "Refused", "is_integer", "is_count", "check_count", "is_whole_row", "common", "bezout", "least_multiple", "divisors", "is_prime", "power", "sign_of", "rows_to", "row_text", "_law_state", "_law_take", "_law_says", "_law_is_whole", "_law_same", "_law_common", "_law_result"] w := by
  intro os
  kernel_rfl
end Mch.k00

set_option maxHeartbeats 0
/-! ## k00: the law, if the machine's run gives True -/
open PySem PySem.W PySem.Calls PyProof.Rows
theorem Mch.k00.law_if (run : ∀ ns : List Int, ns.length ≤ 63 → (∀ z ∈ ns, Builtin.Int.intBits z ≤ 1048576) → ∃ μ, (Mch.tabD Mch.k00.prog 100000 40).call 20 [.ref 0] [.frz (ns.map Mch.MV.int)] = .ok (.bl true) μ) : PySem.Challenge.rw_tetraroads_k00_whole_integers_of_gluings.Holds := by
  w_on; o_law
  refine HandSHeadRun.head_any (r := OpenLaw.row PySem.Challenge.rw_tetraroads_k00_whole_integers_of_gluings) (q := view (OpenLaw.row PySem.Challenge.rw_tetraroads_k00_whole_integers_of_gluings).prog [26]) (H := Mch.k00.hk) (ob := Mch.k00.ob) (M := 4000) (loose := ["Fault", "Malformed", "Refused", "is_integer", "is_count", "check_count", "is_whole_row", "common", "bezout", "least_multiple", "divisors", "is_prime", "power", "sign_of", "rows_to", "row_text", "_law_state", "_law_take", "_law_says", "_law_is_whole", "_law_same", "_law_common", "_law_result"]) (d := HandSHeadRun.topDef (OpenLaw.row PySem.Challenge.rw_tetraroads_k00_whole_integers_of_gluings).prog 26) (kwd := []) Mch.k00.ob_eq
    (by kernel_rfl) (fun s => by kernel_rfl) Mch.k00.headRun (by kernel_rfl) (by kernel_rfl) (by kernel_rfl) (by rfl) (by first | assumption | decide +kernel) (by decide +kernel) ⟨rfl, rfl, rfl, rfl, rfl, by decide +kernel⟩ ?hw ?hc
  case hw => w_witness2
  case hc =>
    exact Mch.walk_ofM (S := Mch.k00.Sp) (l := PySem.Challenge.rw_tetraroads_k00_whole_integers_of_gluings) (n := 63) (m := 5) (k := 40) (N := 100000) (li := 20) (x := "script") (F := Mch.k00.f20) rfl (by decide) (by kernel_rfl) ⟨rfl, by decide, by decide⟩ rfl (by kernel_rfl) rfl rfl
      (fun K fd f FD s u => FD.bindsA (ps := ["script"]) (fun _ _ _ _ _ _ us hl => match us, hl with | [_], _ => rfl) s [u] rfl) Mch.k00.allC Mch.k00.allB run

/-! ## Running the machine: what an end gives -/
namespace Mch
open PySem
/-- the run ends well, so -/
def R.To {α : Type} (r : R α) (Q : α → Mem → Prop) : Prop := match r with
  | .ok a μ => Q a μ
  | _ => False
def RS.To (r : RS) (Q : Fl → Mem → Prop) : Prop := match r with
  | .ok f μ => Q f μ
  | _ => False
section
variable {α β : Type} {r : R α} {s : RS} {Q Q' : α → Mem → Prop} {P P' : Fl → Mem → Prop}
theorem R.To.imp (h : r.To Q) (f : ∀ a μ, Q a μ → Q' a μ) : r.To Q' := by
  cases r with
  | ok a μ => exact f a μ h
  | exc x μ => exact h
  | no => exact h
theorem RS.To.imp (h : s.To P) (f : ∀ a μ, P a μ → P' a μ) : s.To P' := by
  cases s with
  | ok a μ => exact f a μ h
  | exc x σ μ => exact h
  | no => exact h
theorem R.To.bind {f : α → Mem → R β} {Q : β → Mem → Prop} (h : r.To fun a μ => (f a μ).To Q) : (r.bind f).To Q := by
  cases r with
  | ok a μ => exact h
  | exc x μ => exact h
  | no => exact h
theorem R.To.stm {σ : Env} {f : α → Mem → RS} (h : r.To fun a μ => (f a μ).To P) : (r.stm σ f).To P := by
  cases r with
  | ok a μ => exact h
  | exc x μ => exact h
  | no => exact h
/-- behind a statement -/
def goT (P : Fl → Mem → Prop) (k : Env → Mem → RS) : Fl → Mem → Prop
  | .next σ, μ => (k σ μ).To P
  | f, μ => P f μ
theorem RS.To.go {k : Env → Mem → RS} (h : s.To (goT P k)) : (s.go k).To P := by
  cases s with
  | ok f μ => cases f <;> exact h
  | exc x σ μ => exact h
  | no => exact h
theorem R.To.eq (h : r.To Q) : ∃ a μ, r = .ok a μ ∧ Q a μ := by
  cases r with
  | ok a μ => exact ⟨a, μ, rfl, h⟩
  | exc x μ => exact h.elim
  | no => exact h.elim
theorem RS.To.eq (h : s.To P) : ∃ a μ, s = .ok a μ ∧ P a μ := by
  cases s with
  | ok a μ => exact ⟨a, μ, rfl, h⟩
  | exc x σ μ => exact h.elim
  | no => exact h.elim
end
/-! ### memories -/
/-- μ' has what μ has, but for the cells of e -/
def Grow (e : List Nat) (μ μ' : Mem) : Prop := μ.length ≤ μ'.length ∧ ∀ j, j < μ.length → j ∉ e → μ'[j]? = μ[j]?
theorem Grow.refl (e : List Nat) (μ : Mem) : Grow e μ μ := ⟨Nat.le_refl _, fun _ _ _ => rfl⟩
theorem Grow.trans {e : List Nat} {μ μ1 μ2 : Mem} (a : Grow e μ μ1) (b : Grow e μ1 μ2) : Grow e μ μ2 :=
  ⟨Nat.le_trans a.1 b.1, fun j h n => (b.2 j (Nat.lt_of_lt_of_le h a.1) n).trans (a.2 j h n)⟩
theorem Grow.weak {e e' : List Nat} {μ μ1 : Mem} (a : Grow e μ μ1) (h : ∀ j ∈ e, j ∈ e') : Grow e' μ μ1 := ⟨a.1, fun j l n => a.2 j l fun m => n (h j m)⟩
theorem Grow.app (e : List Nat) (μ x : Mem) : Grow e μ (μ ++ x) := ⟨by simp, fun j h _ => List.getElem?_append_left h⟩
theorem Grow.get {e : List Nat} {μ μ1 : Mem} (a : Grow e μ μ1) {i : Nat} {c : Cell} (h : μ[i]? = some c) (n : i ∉ e) : μ1[i]? = some c := by
  rw [a.2 i (List.getElem?_eq_some_iff.mp h).1 n]
  exact h
theorem Grow.lst {e : List Nat} {μ μ1 : Mem} (a : Grow e μ μ1) {i : Nat} {xs : List MV} (h : lstAt μ i = some xs) (n : i ∉ e) : lstAt μ1 i = some xs := by
  have hi : i < μ.length := by
    unfold lstAt at h
    cases q : μ[i]? with
    | none => rw [q] at h; cases h
    | some c => exact (List.getElem?_eq_some_iff.mp q).1
  unfold lstAt at h ⊢
  rw [a.2 i hi n]
  exact h
theorem lstAt_new {μ : Mem} {xs : List MV} : lstAt (μ ++ [.lst xs]) μ.length = some xs := by
  unfold lstAt
  rw [List.getElem?_append_right (Nat.le_refl _), Nat.sub_self]
  rfl
theorem get_new {μ : Mem} {c : Cell} : (μ ++ [c])[μ.length]? = some c := by
  rw [List.getElem?_append_right (Nat.le_refl _), Nat.sub_self]
  rfl
theorem lstAt_lt {μ : Mem} {i : Nat} {xs : List MV} (h : lstAt μ i = some xs) : i < μ.length := by
  unfold lstAt at h
  cases q : μ[i]? with
  | none => rw [q] at h; cases h
  | some c => exact (List.getElem?_eq_some_iff.mp q).1
/-! ### loops -/
/-- behind a turn of a loop -/
def turnT (P : Fl → Mem → Prop) (I : Env → Mem → Prop) : Fl → Mem → Prop
  | .next σ, μ => I σ μ
  | .cnt σ, μ => I σ μ
  | .brk σ, μ => P (.next σ) μ
  | .ret v, μ => P (.ret v) μ
theorem forL_to {J : MV} {xs : List MV} {g : MV → Env → Option Env} {b : Env → Mem → RS} {P : Fl → Mem → Prop} (I : Nat → Env → Mem → Prop) (hit : ∀ i σ μ, I i σ μ → nth μ J i = some xs[i]?)
    (step : ∀ i x σ μ, xs[i]? = some x → I i σ μ → ∃ σ1, g x σ = some σ1 ∧ (b σ1 μ).To (turnT P (I (i + 1)))) (fin : ∀ σ μ, I xs.length σ μ → P (.next σ) μ) :
    ∀ (n i : Nat) (σ : Env) (μ : Mem), i ≤ xs.length → xs.length < n + i → I i σ μ → (forL J g b n i σ μ).To P
  | 0, i, σ, μ, h1, h2, _ => by omega
  | n + 1, i, σ, μ, h1, h2, hI => by
    simp only [forL, hit i σ μ hI]
    by_cases hi : i < xs.length
    · have hx : xs[i]? = some xs[i] := List.getElem?_eq_getElem hi
      obtain ⟨σ1, e1, hb⟩ := step i xs[i] σ μ hx hI
      simp only [hx, e1]
      revert hb
      cases b σ1 μ with
      | no => exact fun h => h.elim
      | exc x σ μ => exact fun h => h.elim
      | ok f μ2 => cases f with
        | next σ2 => exact fun h => forL_to I hit step fin n (i + 1) σ2 μ2 hi (by omega) h
        | cnt σ2 => exact fun h => forL_to I hit step fin n (i + 1) σ2 μ2 hi (by omega) h
        | brk σ2 => exact fun h => h
        | ret v => exact fun h => h
    · have e : i = xs.length := by omega
      subst e
      rw [List.getElem?_eq_none (Nat.le_refl _)]
      exact fin σ μ hI
theorem whileL_to {c : Env → Mem → R Bool} {b : Env → Mem → RS} {P : Fl → Mem → Prop} (I : Nat → Env → Mem → Prop)
    (step : ∀ m σ μ, I m σ μ → (c σ μ).To fun k μ' => if k = true then (∃ m', m = m' + 1 ∧ (b σ μ').To (turnT P (I m'))) else P (.next σ) μ') :
    ∀ (n m : Nat) (σ : Env) (μ : Mem), m < n → I m σ μ → (whileL c b n σ μ).To P
  | 0, m, σ, μ, h, _ => by omega
  | n + 1, m, σ, μ, h, hI => by
    simp only [whileL]
    refine R.To.stm ((step m σ μ hI).imp fun k μ' hk => ?_)
    cases k with
    | false =>
      rw [if_neg Bool.false_ne_true] at hk ⊢
      exact hk
    | true =>
      rw [if_pos rfl] at hk ⊢
      obtain ⟨m', rfl, hb⟩ := hk
      revert hb
      cases b σ μ' with
      | no => exact fun h => h.elim
      | exc x σ μ => exact fun h => h.elim
      | ok f μ2 => cases f with
        | next σ2 => exact fun h => whileL_to I step n m' σ2 μ2 (by omega) h
        | cnt σ2 => exact fun h => whileL_to I step n m' σ2 μ2 (by omega) h
        | brk σ2 => exact fun h => h
        | ret v => exact fun h => h
theorem compL_to {J : MV} {xs : List MV} {body : List MV → MV → Mem → R (List MV)} {Q : List MV → Mem → Prop} (I : Nat → List MV → Mem → Prop) (hit : ∀ i acc μ, I i acc μ → nth μ J i = some xs[i]?)
    (step : ∀ i x acc μ, xs[i]? = some x → I i acc μ → (body acc x μ).To (I (i + 1))) (fin : ∀ acc μ, I xs.length acc μ → Q acc μ) :
    ∀ (n i : Nat) (acc : List MV) (μ : Mem), i ≤ xs.length → xs.length < n + i → I i acc μ → (compL J body n i acc μ).To Q
  | 0, i, acc, μ, h1, h2, _ => by omega
  | n + 1, i, acc, μ, h1, h2, hI => by
    simp only [compL, hit i acc μ hI]
    by_cases hi : i < xs.length
    · have hx : xs[i]? = some xs[i] := List.getElem?_eq_getElem hi
      have hb := step i xs[i] acc μ hx hI
      simp only [hx]
      exact R.To.bind (hb.imp fun acc' μ' h => compL_to I hit step fin n (i + 1) acc' μ' hi (by omega) h)
    · have e : i = xs.length := by omega
      subst e
      rw [List.getElem?_eq_none (Nat.le_refl _)]
      exact fin acc μ hI
/-- a range's ints -/
def rngL (lo : Int) (n : Nat) (st : Int) : List MV := (List.range n).map fun (i : Nat) => .int (lo + i * st)
@[simp] theorem rngL_len {lo : Int} {n : Nat} {st : Int} : (rngL lo n st).length = n := by simp [rngL]
theorem mem_rngL {lo : Int} {n : Nat} {x : MV} (h : x ∈ rngL lo n 1) : ∃ k : Int, x = .int k ∧ lo ≤ k ∧ k < lo + n := by
  obtain ⟨i, h1, rfl⟩ := List.mem_map.mp h
  have := List.mem_range.mp h1
  exact ⟨_, rfl, by omega, by omega⟩
/-- what is walked: its items -/
def items (μ : Mem) : MV → Option (List MV)
  | .tup xs => some xs
  | .ref a => lstAt μ a
  | .rng lo n st => some (rngL lo n st)
  | _ => none
theorem nth_items {μ : Mem} {J : MV} {xs : List MV} (h : items μ J = some xs) (i : Nat) : nth μ J i = some xs[i]? := by
  cases J <;> simp only [items, reduceCtorEq, Option.some.injEq] at h
  · subst h; simp only [nth]
  · simp only [nth, h, Option.map_some]
  · subst h
    rename_i lo n st
    simp only [nth, rngL, List.getElem?_map]
    by_cases hi : i < n
    · rw [if_pos hi, List.getElem?_range hi]; rfl
    · rw [if_neg hi, List.getElem?_eq_none (by simpa using hi)]; rfl
theorem itM_items {μ : Mem} {J : MV} {xs : List MV} (h : items μ J = some xs) : itM μ J = .ok J μ := by
  cases J <;> simp only [items, reduceCtorEq, Option.some.injEq] at h
  · simp only [itM]
  · simp only [itM, h]
  · simp only [itM]
theorem Grow.items {μ μ1 : Mem} (a : Grow [] μ μ1) {J : MV} {xs : List MV} (h : items μ J = some xs) : Mch.items μ1 J = some xs := by
  cases J <;> simp only [Mch.items, reduceCtorEq] at h ⊢
  · exact h
  · exact a.lst h (by simp)
  · exact h
/-! ### values: no functions, no references but to lists -/
/-- the value is plain data, or a list that is there -/
def DatM (μ : Mem) : MV → Prop
  | .non => True
  | .bl _ => True
  | .int _ => True
  | .str _ => True
  | .tup _ => True
  | .ref a => ∃ xs, lstAt μ a = some xs
  | _ => False
def isIntM : MV → Bool
  | .int _ => true
  | _ => false
def isBlM : MV → Bool
  | .bl _ => true
  | _ => false
def isTupM : MV → Bool
  | .tup _ => true
  | _ => false
def isStrM : MV → Bool
  | .str _ => true
  | _ => false
theorem ty_bool {P : Prog} {μ : Mem} {v : MV} (h : DatM μ v) : tysM P μ v [.bool] = some (isBlM v) := by
  cases v <;> simp only [DatM] at h <;> simp [tysM, tyM, isBlM]
  obtain ⟨xs, h⟩ := h
  rw [h]
  rfl
theorem ty_int {P : Prog} {μ : Mem} {v : MV} (h : DatM μ v) : tysM P μ v [.int] = some (isIntM v || isBlM v) := by
  cases v <;> simp only [DatM] at h <;> simp [tysM, tyM, isBlM, isIntM]
  obtain ⟨xs, h⟩ := h
  rw [h]
  rfl
theorem ty_tup {P : Prog} {μ : Mem} {v : MV} (h : DatM μ v) : tysM P μ v [.tuple] = some (isTupM v) := by
  cases v <;> simp only [DatM] at h <;> simp [tysM, tyM, isTupM]
  obtain ⟨xs, h⟩ := h
  rw [h]
  rfl
theorem ty_str {P : Prog} {μ : Mem} {v : MV} (h : DatM μ v) : tysM P μ v [.str] = some (isStrM v) := by
  cases v <;> simp only [DatM] at h <;> simp [tysM, tyM, isStrM]
  obtain ⟨xs, h⟩ := h
  rw [h]
  rfl
/-! ### equations -/
section
variable {T : Tab} {σ : Env} {μ : Mem} {α β : Type}
@[simp] theorem bind_ok' {a : α} {f : α → Mem → R β} : (R.ok a μ).bind f = f a μ := Eq.trans rfl rfl
@[simp] theorem stm_ok' {a : α} {f : α → Mem → RS} : (R.ok a μ).stm σ f = f a μ := Eq.trans rfl rfl
@[simp] theorem opt_some {a : α} : R.opt (some a) μ = .ok a μ := Eq.trans rfl rfl
@[simp] theorem calm_ok' {a : α} : R.calm (R.ok a μ) = .ok a μ := Eq.trans rfl rfl
@[simp] theorem go_next {k : Env → Mem → RS} : (RS.ok (.next σ) μ).go k = k σ μ := Eq.trans rfl rfl
@[simp] theorem go_ret {k : Env → Mem → RS} {v : MV} : (RS.ok (.ret v) μ).go k = .ok (.ret v) μ := Eq.trans rfl rfl
@[simp] theorem go_exc {k : Env → Mem → RS} {x : MX} : (RS.exc x σ μ).go k = .exc x σ μ := Eq.trans rfl rfl
@[simp] theorem bind_exc {x : MX} {f : α → Mem → R β} : (R.exc x μ : R α).bind f = .exc x μ := Eq.trans rfl rfl
@[simp] theorem stm_exc {x : MX} {f : α → Mem → RS} : (R.exc x μ : R α).stm σ f = .exc x σ μ := Eq.trans rfl rfl
@[simp] theorem To_ok {a : α} {Q : α → Mem → Prop} : (R.ok a μ).To Q ↔ Q a μ := ⟨fun h => h, fun h => h⟩
@[simp] theorem STo_ok {f : Fl} {Q : Fl → Mem → Prop} : (RS.ok f μ).To Q ↔ Q f μ := ⟨fun h => h, fun h => h⟩
@[simp] theorem E_non : evE T .non σ μ = .ok .non μ := by simp only [evE]
@[simp] theorem E_bl {b : Bool} : evE T (.bl b) σ μ = .ok (.bl b) μ := by simp only [evE]
@[simp] theorem E_int {i : Int} : evE T (.int i) σ μ = .ok (.int i) μ := by simp only [evE]
@[simp] theorem E_str {x : Str} : evE T (.str x) σ μ = .ok (.str x) μ := by simp only [evE]
@[simp] theorem E_fn {f : Nat} : evE T (.fn f) σ μ = .ok (.fn f) μ := by simp only [evE]
theorem E_var {i : Nat} {v : MV} (h : σ[i]? = some (some v)) : evE T (.var i) σ μ = .ok v μ := by simp only [evE, h]
@[simp] theorem E_var0 {v : MV} {r : Env} : evE T (.var 0) (some v :: r) μ = .ok v μ := E_var rfl
@[simp] theorem E_varS {i : Nat} {o : Option MV} {r : Env} : evE T (.var (i + 1)) (o :: r) μ = evE T (.var i) r μ := by simp only [evE, List.getElem?_cons_succ]
def negM (x : MV) (μ : Mem) : R MV := match x with
  | .int i => .ok (.int (-i)) μ
  | _ => .no
@[simp] theorem neg_int' {i : Int} : negM (.int i) μ = .ok (.int (-i)) μ := Eq.trans rfl rfl
@[simp] theorem E_neg {a : E} : evE T (.neg a) σ μ = (evE T a σ μ).bind negM := by
  simp only [evE]
  congr 1
@[simp] theorem E_not {a : E} : evE T (.not a) σ μ = (evE T a σ μ).bind fun x μ => (truR x μ).bind fun b μ => .ok (.bl (!b)) μ := by simp only [evE]
@[simp] theorem E_bin {op : Operator} {a b : E} : evE T (.bin op a b) σ μ = (evE T a σ μ).bind fun x μ => (evE T b σ μ).bind fun y μ => binM μ op x y := by simp only [evE]
@[simp] theorem E_cmp {op : CmpOp} {a b : E} : evE T (.cmp op a b) σ μ = (evE T a σ μ).bind fun x μ => (evE T b σ μ).bind fun y μ => (R.opt (cmpM μ op x y) μ).bind fun k μ => .ok (.bl k) μ := by simp only [evE]
@[simp] theorem E_cmp2 {o1 o2 : CmpOp} {a b c : E} : evE T (.cmp2 o1 o2 a b c) σ μ = (evE T a σ μ).bind fun x μ => (evE T b σ μ).bind fun y μ => (R.opt (cmpM μ o1 x y) μ).bind fun k μ =>
      if k then (evE T c σ μ).bind fun z μ => (R.opt (cmpM μ o2 y z) μ).bind fun k μ => .ok (.bl k) μ else .ok (.bl false) μ := by simp only [evE]
@[simp] theorem E_and {a b : E} : evE T (.and a b) σ μ = (evE T a σ μ).bind fun x μ => (truR x μ).bind fun k μ => if k then evE T b σ μ else .ok x μ := by simp only [evE]
@[simp] theorem E_or {a b : E} : evE T (.or a b) σ μ = (evE T a σ μ).bind fun x μ => (truR x μ).bind fun k μ => if k then .ok x μ else evE T b σ μ := by simp only [evE]
@[simp] theorem E_ite {c a b : E} : evE T (.ite c a b) σ μ = (evE T c σ μ).bind fun x μ => (truR x μ).bind fun k μ => if k then evE T a σ μ else evE T b σ μ := by simp only [evE]
@[simp] theorem E_tup {as : List E} : evE T (.tup as) σ μ = (evEs T as σ μ).bind fun xs μ => newT xs μ := by simp only [evE]
@[simp] theorem E_lst {as : List E} : evE T (.lst as) σ μ = (evEs T as σ μ).bind fun xs μ => newL xs μ := by simp only [evE]
@[simp] theorem E_idx {a b : E} : evE T (.idx a b) σ μ = (evE T a σ μ).bind fun x μ => (evE T b σ μ).bind fun y μ => R.opt (idxM μ x y) μ := by simp only [evE]
@[simp] theorem E_slc {a lo hi : E} : evE T (.slc a lo hi) σ μ = (evE T a σ μ).bind fun x μ => (partR lo.isNon (evE T lo σ μ) μ).bind fun l μ => (partR hi.isNon (evE T hi σ μ) μ).bind fun h μ => slcM μ x l h := by simp only [evE]
@[simp] theorem E_call {f : Nat} {as : List E} : evE T (.call f as) σ μ = (evEs T as σ μ).bind fun xs μ => T.call f xs μ := by simp only [evE]
theorem E_callv {i f : Nat} {as : List E} (h : σ[i]? = some (some (.fn f))) : evE T (.callv i as) σ μ = (evEs T as σ μ).bind fun xs μ => T.call f xs μ := by simp only [evE, h]
@[simp] theorem E_callv0 {f : Nat} {as : List E} {r : Env} : evE T (.callv 0 as) (some (.fn f) :: r) μ = (evEs T as (some (.fn f) :: r) μ).bind fun xs μ => T.call f xs μ := E_callv rfl
@[simp] theorem E_mk {c : Nat} {as : List E} : evE T (.mk c as) σ μ = (evEs T as σ μ).bind fun xs μ => T.make c xs μ := by simp only [evE]
@[simp] theorem E_bi {b : BI} {as : List E} : evE T (.bi b as) σ μ = (evEs T as σ μ).bind fun xs μ => biM μ b xs := by simp only [evE]
@[simp] theorem E_mth {m : Mt} {o : E} {as : List E} : evE T (.mth m o as) σ μ = (evE T o σ μ).bind fun x μ => if mthTy μ m x then (evEs T as σ μ).bind fun xs μ => mthM μ m x xs else .no := by simp only [evE]
@[simp] theorem E_isin {a : E} {ts : List TyR} : evE T (.isin a ts) σ μ = (evE T a σ μ).bind fun x μ => (R.opt (tysM T.P μ x ts) μ).bind fun k μ => .ok (.bl k) μ := by simp only [evE]
@[simp] theorem E_rng {as : List E} : evE T (.rng as) σ μ = (evEs T as σ μ).bind fun xs μ => rngM μ xs := by simp only [evE]
@[simp] theorem Es_nil : evEs T [] σ μ = .ok [] μ := by simp only [evEs]
@[simp] theorem Es_cons {e : E} {es : List E} : evEs T (e :: es) σ μ = (evE T e σ μ).bind fun x μ => (evEs T es σ μ).bind fun xs μ => .ok (x :: xs) μ := by simp only [evEs]
@[simp] theorem S_asg {t e : E} : evS T (.asg t e) σ μ = (evE T e σ μ).stm σ fun v μ => (R.calm (asgT T t v σ μ)).stm σ fun σ μ => .ok (.next σ) μ := by simp only [evS]
@[simp] theorem S_expr {e : E} : evS T (.expr e) σ μ = (evE T e σ μ).stm σ fun _ μ => .ok (.next σ) μ := by simp only [evS]
@[simp] theorem S_ite {c : E} {a b : List S} : evS T (.ite c a b) σ μ = (evE T c σ μ).stm σ fun x μ => (truR x μ).stm σ fun k μ => if k then evB T a σ μ else evB T b σ μ := by simp only [evS]
@[simp] theorem S_while {c : E} {b : List S} : evS T (.while c b) σ μ = whileL (fun σ μ => (evE T c σ μ).bind truR) (evB T b) T.n σ μ := by simp only [evS]
@[simp] theorem S_for {t it : E} {b : List S} : evS T (.for t it b) σ μ = (evE T it σ μ).stm σ fun J μ => (itM μ J).stm σ fun J μ => forL J (bindT t) (evB T b) T.n 0 σ μ := by simp only [evS]
@[simp] theorem S_ret {e : E} : evS T (.ret e) σ μ = (evE T e σ μ).stm σ fun v μ => .ok (.ret v) μ := by simp only [evS]
@[simp] theorem S_retN : evS T .retN σ μ = .ok (.ret .non) μ := by simp only [evS]
@[simp] theorem S_pass : evS T .pass σ μ = .ok (.next σ) μ := by simp only [evS]
@[simp] theorem S_brk : evS T .brk σ μ = .ok (.brk σ) μ := by simp only [evS]
@[simp] theorem S_cnt : evS T .cnt σ μ = .ok (.cnt σ) μ := by simp only [evS]
@[simp] theorem B_nil : evB T [] σ μ = .ok (.next σ) μ := by simp only [evB]
@[simp] theorem B_cons {s : S} {b : List S} : evB T (s :: b) σ μ = (evS T s σ μ).go fun σ μ => evB T b σ μ := by simp only [evB]
@[simp] theorem A_var {i : Nat} {v : MV} : asgT T (.var i) v σ μ = .ok (σ.set i (some v)) μ := by simp only [asgT]
@[simp] theorem A_idx {a b : E} {v : MV} : asgT T (.idx a b) v σ μ = (evE T a σ μ).bind fun x μ => (evE T b σ μ).bind fun y μ => (setM μ x y v).bind fun _ μ => .ok σ μ := by simp only [asgT]
@[simp] theorem A_tup {ts : List E} {xs : List MV} : asgT T (.tup ts) (.tup xs) σ μ = if xs.length = ts.length then asgT.go T ts xs σ μ else .no := by simp only [asgT]
@[simp] theorem Ag_nil : asgT.go T [] [] σ μ = .ok σ μ := by simp only [asgT.go]
@[simp] theorem Ag_cons {t : E} {ts : List E} {x : MV} {xs : List MV} : asgT.go T (t :: ts) (x :: xs) σ μ = (asgT T t x σ μ).bind fun σ μ => asgT.go T ts xs σ μ := by simp only [asgT.go]
@[simp] theorem tru_bl {b : Bool} : truR (.bl b) μ = .ok b μ := Eq.trans rfl rfl
@[simp] theorem tru_int {i : Int} : truR (.int i) μ = .ok (i != 0) μ := Eq.trans rfl rfl
@[simp] theorem T_var {i : Nat} {v : MV} : bindT (.var i) v σ = some (σ.set i (some v)) := by simp only [bindT]
theorem newT_ok' {xs : List MV} (h : xs.length ≤ sizeLine) : newT xs μ = .ok (.tup xs) μ := if_pos h
theorem newL_ok' {xs : List MV} (h : xs.length ≤ sizeLine) : newL xs μ = .ok (.ref μ.length) (μ ++ [.lst xs]) := if_pos h
/-- small rows -/
@[simp] theorem newT0 : newT [] μ = .ok (.tup []) μ := newT_ok' (by show 0 ≤ sizeLine; decide)
@[simp] theorem newT1 {a : MV} : newT [a] μ = .ok (.tup [a]) μ := newT_ok' (by show 1 ≤ sizeLine; decide)
@[simp] theorem newT2 {a b : MV} : newT [a, b] μ = .ok (.tup [a, b]) μ := newT_ok' (by show 2 ≤ sizeLine; decide)
@[simp] theorem newT3 {a b c : MV} : newT [a, b, c] μ = .ok (.tup [a, b, c]) μ := newT_ok' (by show 3 ≤ sizeLine; decide)
@[simp] theorem newT4 {a b c d : MV} : newT [a, b, c, d] μ = .ok (.tup [a, b, c, d]) μ := newT_ok' (by show 4 ≤ sizeLine; decide)
@[simp] theorem newT6 {a b c d e f : MV} : newT [a, b, c, d, e, f] μ = .ok (.tup [a, b, c, d, e, f]) μ := newT_ok' (by show 6 ≤ sizeLine; decide)
@[simp] theorem newL0 : newL [] μ = .ok (.ref μ.length) (μ ++ [.lst []]) := newL_ok' (by show 0 ≤ sizeLine; decide)
@[simp] theorem newL1 {a : MV} : newL [a] μ = .ok (.ref μ.length) (μ ++ [.lst [a]]) := newL_ok' (by show 1 ≤ sizeLine; decide)
@[simp] theorem newL2 {a b : MV} : newL [a, b] μ = .ok (.ref μ.length) (μ ++ [.lst [a, b]]) := newL_ok' (by show 2 ≤ sizeLine; decide)
end
/-! ### comparisons -/
@[simp] theorem eq_int {μ : Mem} {a b : Int} : eqM μ (.int a) (.int b) = some (decide (a = b)) := by
  simp only [eqM, toD, PyData.eqv, Option.some.injEq]
  exact Bool.eq_iff_iff.mpr (by simp)
@[simp] theorem eq_bl {μ : Mem} {a b : Bool} : eqM μ (.bl a) (.bl b) = some (decide (a = b)) := by
  simp [eqM, toD, PyData.eqv]
  cases a <;> cases b <;> rfl
@[simp] theorem cmp_eqi {μ : Mem} {a b : Int} : cmpM μ .Eq (.int a) (.int b) = some (decide (a = b)) := eq_int (μ := μ)
@[simp] theorem cmp_nei {μ : Mem} {a b : Int} : cmpM μ .NotEq (.int a) (.int b) = some (!decide (a = b)) := by
  simp only [cmpM, eq_int, Option.map_some]
@[simp] theorem cmp_lt {μ : Mem} {a b : Int} : cmpM μ .Lt (.int a) (.int b) = some (decide (a < b)) := Eq.trans rfl rfl
@[simp] theorem cmp_le {μ : Mem} {a b : Int} : cmpM μ .LtE (.int a) (.int b) = some (decide (a ≤ b)) := Eq.trans rfl rfl
@[simp] theorem cmp_gt {μ : Mem} {a b : Int} : cmpM μ .Gt (.int a) (.int b) = some (decide (b < a)) := Eq.trans rfl rfl
@[simp] theorem cmp_ge {μ : Mem} {a b : Int} : cmpM μ .GtE (.int a) (.int b) = some (decide (b ≤ a)) := Eq.trans rfl rfl
@[simp] theorem cmp_eqb {μ : Mem} {a b : Bool} : cmpM μ .Eq (.bl a) (.bl b) = some (decide (a = b)) := eq_bl (μ := μ)
/-! ### comprehensions -/
/-- a comprehension's turn: none, if the test says no -/
def turnE (T : Tab) (cd elt : E) (σ1 : Env) (μ : Mem) : R (Option MV) := (evE T cd σ1 μ).bind fun k μ => (truR k μ).bind fun k μ => if k then (evE T elt σ1 μ).bind fun v μ => .ok (some v) μ else .ok none μ
/-- over items that stay, the item a function of the thing -/
theorem comp_gen {T : Tab} {σ : Env} {μ : Mem} {elt tg it cd : E} {own : List Nat} {J : MV} {μ1 : Mem} {xs : List MV} {Q : MV → Mem → Prop} (I : Nat → List MV → Mem → Prop) (hn : xs.length < T.n) (hz : xs.length ≤ sizeLine) (hi : evE T it σ μ = .ok J μ1) (hJ : items μ1 J = some xs)
    (h0 : I 0 [] μ1) (gi : ∀ i acc μ2, I i acc μ2 → items μ2 J = some xs ∧ acc.length ≤ i)
    (hstep : ∀ i x acc μ2, xs[i]? = some x → I i acc μ2 → ∃ σ1, bindT tg x (wipeM σ own) = some σ1 ∧ (turnE T cd elt σ1 μ2).To fun o μ3 => I (i + 1) (acc ++ o.toList) μ3)
    (hQ : ∀ acc μ2, I xs.length acc μ2 → Q (.ref μ2.length) (μ2 ++ [.lst acc])) : (evE T (.comp elt tg it cd own) σ μ).To Q := by
  simp only [evE, hi, bind_ok']
  rw [itM_items hJ]
  simp only [bind_ok']
  refine R.To.bind (compL_to (J := J) (xs := xs) (I := I) (fun i acc μ2 h => nth_items (gi i acc μ2 h).1 i) (fun i x acc μ2 hx h => ?_) (fun acc μ2 h => ?_) T.n 0 [] μ1 (Nat.zero_le _) (by omega) h0)
  · obtain ⟨σ1, e1, hs⟩ := hstep i x acc μ2 hx h
    have hl2 : acc.length < sizeLine := by
      have h1 := (gi i acc μ2 h).2
      have h2 := (List.getElem?_eq_some_iff.mp hx).1
      omega
    simp only [e1, opt_some, bind_ok']
    revert hs
    unfold turnE
    cases evE T cd σ1 μ2 with
    | no => exact fun h => h.elim
    | exc z μ => exact fun h => h.elim
    | ok kv μ3 =>
      simp only [bind_ok']
      cases truR kv μ3 with
      | no => exact fun h => h.elim
      | exc z μ => exact fun h => h.elim
      | ok k μ4 =>
        simp only [bind_ok']
        cases k with
        | false =>
          intro h
          simp only [if_neg Bool.false_ne_true, To_ok, Option.toList_none, List.append_nil] at h
          exact h
        | true =>
          rw [if_pos rfl, if_pos rfl]
          cases evE T elt σ1 μ4 with
          | no => exact fun h => h.elim
          | exc z μ => exact fun h => h.elim
          | ok v μ5 =>
            intro h
            simp only [bind_ok', putL, if_pos hl2, calm_ok', To_ok]
            exact h
  · rw [newL_ok' (by have := (gi _ acc μ2 h).2; omega)]
    exact hQ acc μ2 h
theorem take_succ' {α : Type} {xs : List α} {i : Nat} {x : α} (hx : xs[i]? = some x) : xs.take (i + 1) = xs.take i ++ [x] := by
  rw [List.take_add_one, hx]
  rfl
theorem fm_len {α β : Type} (f : α → Option β) (xs : List α) (i : Nat) : ((xs.take i).filterMap f).length ≤ i := by
  have h1 := List.length_filterMap_le f (xs.take i)
  rw [List.length_take] at h1
  omega
/-- .. nothing that is known is written -/
theorem comp_to {T : Tab} {σ : Env} {μ : Mem} {elt tg it cd : E} {own : List Nat} {J : MV} {μ1 : Mem} {xs : List MV} {Q : MV → Mem → Prop} (f : MV → Option MV) (hn : xs.length < T.n) (hz : xs.length ≤ sizeLine) (hi : evE T it σ μ = .ok J μ1) (hJ : items μ1 J = some xs)
    (hstep : ∀ x μ2, x ∈ xs → Grow [] μ1 μ2 → ∃ σ1, bindT tg x (wipeM σ own) = some σ1 ∧ (turnE T cd elt σ1 μ2).To fun o μ3 => o = f x ∧ Grow [] μ2 μ3)
    (hQ : ∀ μ2, Grow [] μ1 μ2 → Q (.ref μ2.length) (μ2 ++ [.lst (xs.filterMap f)])) : (evE T (.comp elt tg it cd own) σ μ).To Q := by
  refine comp_gen (I := fun i acc μ2 => acc = (xs.take i).filterMap f ∧ Grow [] μ1 μ2) hn hz hi hJ ⟨by simp, Grow.refl _ _⟩ (fun i acc μ2 h => ⟨h.2.items hJ, by rw [h.1]; exact fm_len f xs i⟩) (fun i x acc μ2 hx h => ?_) fun acc μ2 h => ?_
  · obtain ⟨rfl, g⟩ := h
    obtain ⟨σ1, e1, hs⟩ := hstep x μ2 (List.mem_of_getElem? hx) g
    refine ⟨σ1, e1, hs.imp fun o μ3 ho => ⟨?_, g.trans ho.2⟩⟩
    rw [take_succ' hx, List.filterMap_append, ho.1]
    congr 1
  · obtain ⟨rfl, g⟩ := h
    rw [List.take_length]
    exact hQ μ2 g
/-- .. the memory stays as it is -/
theorem comp_pure {T : Tab} {σ : Env} {μ : Mem} {elt tg it cd : E} {own : List Nat} {J : MV} {μ1 : Mem} {xs : List MV} (f : MV → Option MV) (hn : xs.length < T.n) (hz : xs.length ≤ sizeLine) (hi : evE T it σ μ = .ok J μ1) (hJ : items μ1 J = some xs)
    (hstep : ∀ x, x ∈ xs → ∃ σ1, bindT tg x (wipeM σ own) = some σ1 ∧ turnE T cd elt σ1 μ1 = .ok (f x) μ1) : evE T (.comp elt tg it cd own) σ μ = .ok (.ref μ1.length) (μ1 ++ [.lst (xs.filterMap f)]) := by
  have : (evE T (.comp elt tg it cd own) σ μ).To fun v μ' => v = .ref μ1.length ∧ μ' = μ1 ++ [.lst (xs.filterMap f)] := by
    refine comp_gen (I := fun i acc μ2 => acc = (xs.take i).filterMap f ∧ μ2 = μ1) hn hz hi hJ ⟨by simp, rfl⟩ (fun i acc μ2 h => ⟨by rw [h.2]; exact hJ, by rw [h.1]; exact fm_len f xs i⟩) (fun i x acc μ2 hx h => ?_) fun acc μ2 h => ?_
    · obtain ⟨rfl, rfl⟩ := h
      obtain ⟨σ1, e1, hs⟩ := hstep x (List.mem_of_getElem? hx)
      refine ⟨σ1, e1, ?_⟩
      rw [hs]
      refine ⟨?_, rfl⟩
      rw [take_succ' hx, List.filterMap_append]
      congr 1
    · obtain ⟨rfl, rfl⟩ := h
      rw [List.take_length]
      exact ⟨rfl, rfl⟩
  obtain ⟨v, μ', e, rfl, rfl⟩ := this.eq
  exact e
theorem fm_some {α β : Type} (f : α → β) (xs : List α) : xs.filterMap (fun x => some (f x)) = xs.map f := by
  induction xs with
  | nil => rfl
  | cons x xs ih => simp [ih]
theorem bls_map (l : List MV) (p : MV → Bool) : bls (l.map fun x => .bl (p x)) = some (l.map p) := by
  induction l with
  | nil => rfl
  | cons x l ih => simp only [List.map_cons, bls, ih, Option.map_some]
theorem strs_map (l : List MV) (p : MV → Str) : strs' (l.map fun x => .str (p x)) = some (l.map p) := by
  induction l with
  | nil => rfl
  | cons x l ih => simp only [List.map_cons, strs', ih, Option.map_some]
@[simp] theorem all_new {μ : Mem} {l : List MV} {p : MV → Bool} : biM (μ ++ [.lst (l.map fun x => .bl (p x))]) .all [.ref μ.length] = .ok (.bl (l.all p)) (μ ++ [.lst (l.map fun x => .bl (p x))]) := by
  simp only [biM, lstAt_new, Option.bind_some, bls_map]
  congr 2
  rw [List.all_map]
  rfl
@[simp] theorem any_new {μ : Mem} {l : List MV} {p : MV → Bool} : biM (μ ++ [.lst (l.map fun x => .bl (p x))]) .any [.ref μ.length] = .ok (.bl (l.any p)) (μ ++ [.lst (l.map fun x => .bl (p x))]) := by
  simp only [biM, lstAt_new, Option.bind_some, bls_map]
  congr 2
  rw [List.any_map]
  rfl
theorem flat_dat {μ : Mem} {v : MV} (h : flatM v = true) : DatM μ v := by
  cases v <;> simp only [flatM, Bool.false_eq_true, reduceCtorEq] at h <;> trivial
@[simp] theorem wipe_nil {σ : Env} : wipeM σ [] = σ := Eq.trans rfl rfl
@[simp] theorem wipe_cons {σ : Env} {v : Nat} {vs : List Nat} : wipeM σ (v :: vs) = (wipeM σ vs).set v none := Eq.trans rfl rfl
/-- a call's end -/
def retT (Q : MV → Mem → Prop) : Fl → Mem → Prop
  | .ret v, μ => Q v μ
  | .next _, μ => Q .non μ
  | _, _ => False
theorem runD_to {T : Tab} {D : Def} {args : List MV} {μ : Mem} {Q : MV → Mem → Prop} (hf : fullArgs D args = args) (hl : args.length = D.np) (h : (evB T D.body (slots D args) μ).To (retT Q)) : (runD T D args μ).To Q := by
  unfold runD
  rw [hf, if_pos hl]
  revert h
  cases evB T D.body (slots D args) μ with
  | no => exact fun h => h.elim
  | exc x σ ν => exact fun h => h.elim
  | ok f ν => cases f <;> exact fun h => h
theorem R.To.is {α : Type} {r : R α} {a : α} {μ : Mem} (h : r.To fun b ν => b = a ∧ ν = μ) : r = .ok a μ := by
  obtain ⟨b, ν, e, rfl, rfl⟩ := h.eq
  exact e
@[simp] theorem retT_ret {Q : MV → Mem → Prop} {v : MV} {μ : Mem} : retT Q (.ret v) μ ↔ Q v μ := ⟨fun h => h, fun h => h⟩
@[simp] theorem goT_next {P : Fl → Mem → Prop} {k : Env → Mem → RS} {σ : Env} {μ : Mem} : goT P k (.next σ) μ ↔ (k σ μ).To P := ⟨fun h => h, fun h => h⟩
@[simp] theorem goT_ret {P : Fl → Mem → Prop} {k : Env → Mem → RS} {v : MV} {μ : Mem} : goT P k (.ret v) μ ↔ P (.ret v) μ := ⟨fun h => h, fun h => h⟩
@[simp] theorem turnT_next {P : Fl → Mem → Prop} {I : Env → Mem → Prop} {σ : Env} {μ : Mem} : turnT P I (.next σ) μ ↔ I σ μ := ⟨fun h => h, fun h => h⟩
@[simp] theorem turnT_ret {P : Fl → Mem → Prop} {I : Env → Mem → Prop} {v : MV} {μ : Mem} : turnT P I (.ret v) μ ↔ P (.ret v) μ := ⟨fun h => h, fun h => h⟩
/-! ### comprehensions of two clauses, rows -/
theorem flatMap_split {α β : Type} {xs : List α} {f : α → List β} {i : Nat} {x : α} (h : xs[i]? = some x) : (xs.flatMap f).length = ((xs.take i).flatMap f).length + (f x).length + ((xs.drop (i + 1)).flatMap f).length := by
  have hi := (List.getElem?_eq_some_iff.mp h).1
  have e : xs = xs.take i ++ x :: xs.drop (i + 1) := by
    rw [← (List.getElem?_eq_some_iff.mp h).2, List.getElem_cons_drop, List.take_append_drop]
  have e2 : (xs.flatMap f).length = ((xs.take i ++ x :: xs.drop (i + 1)).flatMap f).length := by rw [← e]
  rw [e2, List.flatMap_append, List.flatMap_cons, List.length_append, List.length_append]
  omega
theorem comp2_pure {T : Tab} {σ : Env} {μ : Mem} {elt tg it tg1 it1 : E} {own own1 : List Nat} {J : MV} {μ1 : Mem} {xs : List MV} (J1 : MV → MV) (ys : MV → List MV) (f : MV → MV → MV) (hn : xs.length < T.n) (hi : evE T it σ μ = .ok J μ1) (hJ : items μ1 J = some xs) (hz : (xs.flatMap fun x => (ys x).map (f x)).length ≤ sizeLine)
    (hstep : ∀ x, x ∈ xs → ∃ σ1, bindT tg x (wipeM σ own) = some σ1 ∧ evE T it1 σ1 μ1 = .ok (J1 x) μ1 ∧ items μ1 (J1 x) = some (ys x) ∧ (ys x).length < T.n ∧ ∀ y, y ∈ ys x → ∃ σ2, bindT tg1 y (wipeM σ1 own1) = some σ2 ∧ evE T elt σ2 μ1 = .ok (f x y) μ1) :
    evE T (.comp2 elt tg it (.bl true) tg1 it1 (.bl true) own own1) σ μ = .ok (.ref μ1.length) (μ1 ++ [.lst (xs.flatMap fun x => (ys x).map (f x))]) := by
  refine R.To.is ?_
  simp only [evE, hi, bind_ok']
  rw [itM_items hJ]
  simp only [bind_ok']
  refine R.To.bind (compL_to (J := J) (xs := xs) (I := fun i acc μ2 => acc = ((xs.take i).flatMap fun x => (ys x).map (f x)) ∧ μ2 = μ1) (fun i acc μ2 h => by rw [h.2]; exact nth_items hJ i) (fun i x acc μ2 hx h => ?_) (fun acc μ2 h => ?_) T.n 0 [] μ1 (Nat.zero_le _) (by omega) ⟨by simp, rfl⟩)
  · obtain ⟨rfl, rfl⟩ := h
    obtain ⟨σ1, e1, e2, e3, e4, hs⟩ := hstep x (List.mem_of_getElem? hx)
    simp only [e1, opt_some, bind_ok', tru_bl, if_true, e2, itM_items e3]
    have hc : (compL (J1 x) (fun acc x μ => (R.opt (bindT tg1 x (wipeM σ1 own1)) μ).bind fun σ2 μ => (evE T elt σ2 μ).bind fun v μ => putL acc v μ) T.n 0 ((xs.take i).flatMap fun x => (ys x).map (f x)) μ2).To fun acc ν => acc = ((xs.take (i + 1)).flatMap fun x => (ys x).map (f x)) ∧ ν = μ2 := by
      refine compL_to (J := J1 x) (xs := ys x) (I := fun j acc ν => acc = ((xs.take i).flatMap fun x => (ys x).map (f x)) ++ ((ys x).take j).map (f x) ∧ ν = μ2) (fun j acc ν h => by rw [h.2]; exact nth_items e3 j) (fun j y acc ν hy h => ?_) (fun acc ν h => ?_) T.n 0 _ μ2 (Nat.zero_le _) (by omega) ⟨by simp, rfl⟩
      · obtain ⟨rfl, rfl⟩ := h
        obtain ⟨σ2, g1, g2⟩ := hs y (List.mem_of_getElem? hy)
        have hl := flatMap_split (f := fun x => (ys x).map (f x)) hx
        have hj := (List.getElem?_eq_some_iff.mp hy).1
        have hlt : (((xs.take i).flatMap fun x => (ys x).map (f x)) ++ ((ys x).take j).map (f x)).length < sizeLine := by
          rw [List.length_append, List.length_map, List.length_take]
          rw [List.length_map] at hl
          omega
        simp only [g1, opt_some, bind_ok', g2, putL, if_pos hlt, To_ok]
        rw [take_succ' hy, List.map_append, List.append_assoc]
        exact ⟨rfl, by trivial⟩
      · obtain ⟨rfl, rfl⟩ := h
        rw [take_succ' hx, List.flatMap_append, List.take_length]
        simp
    obtain ⟨a, ν, he, rfl, rfl⟩ := hc.eq
    rw [he]
    exact ⟨rfl, rfl⟩
  · obtain ⟨rfl, rfl⟩ := h
    rw [List.take_length, newL_ok' hz]
    exact ⟨rfl, rfl⟩
/-! ### data -/
mutual
theorem eqv_all : ∀ (n : Nat) (μ : Mem) (x : MV) (d : PyData), toD μ n x = some d → PyData.eqv d d = true
  | 0, μ, x, d, h => by simp only [toD] at h; cases h
  | n + 1, μ, x, d, h => by
    cases x <;> simp only [toD, reduceCtorEq, Option.some.injEq] at h
    · subst h; simp [PyData.eqv]
    · subst h; simp [PyData.eqv]
    · subst h; simp [PyData.eqv]
    · split at h
      · cases h; simp [PyData.eqv]
      · cases h
    · obtain ⟨ds, h1, rfl⟩ := Option.map_eq_some_iff.mp h
      rw [PyData.eqv]
      exact eqv_alls n μ _ ds h1
    · split at h
      · obtain ⟨ds, h1, rfl⟩ := Option.map_eq_some_iff.mp h
        rw [PyData.eqv]
        exact eqv_alls n μ _ ds h1
      · cases h
theorem eqv_alls : ∀ (n : Nat) (μ : Mem) (xs : List MV) (ds : List PyData), toDs (toD μ n) xs = some ds → PyData.eqvAll ds ds = true
  | n, μ, [], ds, h => by
    simp only [toDs, Option.some.injEq] at h
    subst h
    simp [PyData.eqvAll]
  | n, μ, x :: xs, ds, h => by
    simp only [toDs] at h
    split at h
    · rename_i d ds' h1 h2
      cases h
      rw [PyData.eqvAll, eqv_all n μ x d h1, eqv_alls n μ xs ds' h2]
      rfl
    · cases h
end
theorem toDs_some {f : MV → Option PyData} : ∀ {xs : List MV}, (∀ x ∈ xs, ∃ d, f x = some d) → ∃ ds, toDs f xs = some ds
  | [], _ => ⟨[], rfl⟩
  | x :: xs, h => by
    obtain ⟨d, h1⟩ := h x (by simp)
    obtain ⟨ds, h2⟩ := toDs_some (xs := xs) fun y hy => h y (by simp [hy])
    exact ⟨d :: ds, by simp only [toDs, h1, h2]⟩
theorem eq_self {μ : Mem} {x : MV} {d : PyData} (h : toD μ 40 x = some d) : eqM μ x x = some true := by
  simp only [eqM, h, eqv_all 40 μ x d h]
theorem eq_refs {μ : Mem} {a b : Nat} {xs : List MV} (ha : lstAt μ a = some xs) (hb : lstAt μ b = some xs) (h : ∀ x ∈ xs, ∃ d, toD μ 39 x = some d) : eqM μ (.ref a) (.ref b) = some true := by
  obtain ⟨ds, hd⟩ := toDs_some h
  have e1 : toD μ 40 (.ref a) = some (.list ds) := by
    show (match lstAt μ a with
      | some xs => (toDs (toD μ 39) xs).map PyData.list
      | none => none) = _
    rw [ha]
    simp only [hd, Option.map_some]
  have e2 : toD μ 40 (.ref b) = some (.list ds) := by
    show (match lstAt μ b with
      | some xs => (toDs (toD μ 39) xs).map PyData.list
      | none => none) = _
    rw [hb]
    simp only [hd, Option.map_some]
  simp only [eqM, e1, e2, eqv_all 40 μ _ _ e1]
theorem toD_int {μ : Mem} {n : Nat} {i : Int} : toD μ (n + 1) (.int i) = some (.int i) := by simp only [toD]
theorem toD_tup {μ : Mem} {n : Nat} {xs : List MV} (h : ∀ x ∈ xs, ∃ i : Int, x = .int i) : ∃ d, toD μ (n + 2) (.tup xs) = some d := by
  obtain ⟨ds, hd⟩ := toDs_some (f := toD μ (n + 1)) (xs := xs) fun x hx => by
    obtain ⟨i, rfl⟩ := h x hx
    exact ⟨_, toD_int⟩
  refine ⟨.tuple ds, ?_⟩
  show (toDs (toD μ (n + 1)) xs).map PyData.tuple = _
  rw [hd]
  rfl
end Mch

/-! ## whole numbers: what the machine's operators do -/
namespace Mch
open PySem
theorem fmod_lt' (a : Int) {b : Int} (h : b ≠ 0) : (a.fmod b).natAbs < b.natAbs := by
  rcases Int.lt_or_gt_of_ne h with h | h
  · have h1 := Int.fmod_nonneg_of_pos (-a) (b := -b) (by omega)
    have h2 := Int.fmod_lt_of_pos (-a) (b := -b) (by omega)
    rw [Int.neg_fmod_neg] at h1 h2
    omega
  · have h1 := Int.fmod_nonneg_of_pos a h
    have h2 := Int.fmod_lt_of_pos a h
    omega
theorem gcd_fmod (a b : Int) : Int.gcd b (a.fmod b) = Int.gcd a b := by
  rw [Int.fmod_def, Int.gcd_sub_mul_left_right, Int.gcd_comm]
theorem fdiv_abs (a b : Int) : (a.fdiv b).natAbs ≤ a.natAbs + 1 := by
  by_cases h : b = 0
  · subst h
    rw [Int.fdiv_zero]
    omega
  · have h1 := Int.mul_fdiv_add_fmod a b
    have h2 := fmod_lt' a h
    have h3 : (b * a.fdiv b).natAbs ≤ a.natAbs + (a.fmod b).natAbs := by
      have e : b * a.fdiv b = a - a.fmod b := by omega
      rw [e]
      omega
    rw [Int.natAbs_mul] at h3
    have hb : 0 < b.natAbs := by omega
    have h4 : b.natAbs * (a.fdiv b).natAbs < a.natAbs + b.natAbs := by omega
    by_cases hc : (a.fdiv b).natAbs ≤ a.natAbs + 1
    · exact hc
    · exfalso
      have h5 : a.natAbs + 2 ≤ (a.fdiv b).natAbs := by omega
      have h6 : b.natAbs * (a.natAbs + 2) ≤ b.natAbs * (a.fdiv b).natAbs := Nat.mul_le_mul_left _ h5
      have h7 : a.natAbs ≤ b.natAbs * a.natAbs := Nat.le_mul_of_pos_left _ hb
      rw [Nat.mul_add] at h6
      omega
theorem mulOk_l {i j : Int} (h : i.natAbs < 2 ^ 64) : mulOk i j = true := by
  unfold mulOk
  have h1 : -18446744073709551616 < i ∧ i < 18446744073709551616 := by omega
  simp [h1]
theorem mulOk_r {i j : Int} (h : j.natAbs < 2 ^ 64) : mulOk i j = true := by
  unfold mulOk
  have h1 : -18446744073709551616 < j ∧ j < 18446744073709551616 := by omega
  simp [h1]
theorem divOk_s {j : Int} (h : j ≠ 0) (h2 : j.natAbs < 1073741824) : divOk j = true := by
  unfold divOk
  simp [h, h2]
theorem abs_nat (a : Int) : (if a < 0 then -a else a) = (a.natAbs : Int) := by omega
section
variable {μ : Mem} {a b : Int}
@[simp] theorem bin_add : binM μ .Add (.int a) (.int b) = .ok (.int (a + b)) μ := Eq.trans rfl rfl
@[simp] theorem bin_sub : binM μ .Sub (.int a) (.int b) = .ok (.int (a - b)) μ := Eq.trans rfl rfl
theorem bin_mul (h : mulOk a b = true) : binM μ .Mult (.int a) (.int b) = .ok (.int (a * b)) μ := if_pos h
theorem bin_div (h : divOk b = true) : binM μ .FloorDiv (.int a) (.int b) = .ok (.int (a.fdiv b)) μ := if_pos h
theorem bin_mod (h : b ≠ 0) : binM μ .Mod (.int a) (.int b) = .ok (.int (a.fmod b)) μ := if_pos h
@[simp] theorem bi_abs : biM μ .abs [.int a] = .ok (.int (a.natAbs : Int)) μ := by
  rw [← abs_nat]
  rfl
@[simp] theorem bi_int : biM μ .int [.int a] = .ok (.int a) μ := Eq.trans rfl rfl
@[simp] theorem bi_intb {k : Bool} : biM μ .int [.bl k] = .ok (.int (if k then 1 else 0)) μ := Eq.trans rfl rfl
end
end Mch

/-! ## k00: what the machine's program does -/
namespace Mch.k00
open PySem Mch
abbrev T (d : Nat) : Tab := tabD prog 100000 d
@[simp] theorem TP (d : Nat) : (T d).P = prog := by cases d <;> rfl
@[simp] theorem Tn (d : Nat) : (T d).n = 100000 := by cases d <;> rfl
theorem sl : sizeLine = 16777216 := by decide
theorem run0 (d : Nat) (args : List MV) (μ : Mem) : (T (d + 1)).call 0 args μ = runD (T d) d0 args μ := rfl
theorem run1 (d : Nat) (args : List MV) (μ : Mem) : (T (d + 1)).call 1 args μ = runD (T d) d1 args μ := rfl
theorem run2 (d : Nat) (args : List MV) (μ : Mem) : (T (d + 1)).call 2 args μ = runD (T d) d2 args μ := rfl
theorem run3 (d : Nat) (args : List MV) (μ : Mem) : (T (d + 1)).call 3 args μ = runD (T d) d3 args μ := rfl
theorem run16 (d : Nat) (args : List MV) (μ : Mem) : (T (d + 1)).call 16 args μ = runD (T d) d16 args μ := rfl
theorem run8 (d : Nat) (args : List MV) (μ : Mem) : (T (d + 1)).call 8 args μ = runD (T d) d8 args μ := rfl
/-- is_integer -/
theorem is_integer (d : Nat) {v : MV} {μ : Mem} (h : DatM μ v) : (T (d + 1)).call 0 [v] μ = .ok (.bl (isIntM v)) μ := by
  rw [run0]
  simp only [runD, d0, fullArgs, slots]
  cases v <;> simp only [DatM] at h <;> (try obtain ⟨xs, h⟩ := h) <;> simp [tysM, tyM, isIntM, *]
theorem law_is_whole (d : Nat) {v : MV} {μ : Mem} (h : DatM μ v) : (T (d + 1)).call 16 [v] μ = .ok (.bl (isIntM v)) μ := is_integer d h
/-- is_count -/
def inI (lo hi : Int) : MV → Bool
  | .int i => decide (lo ≤ i) && decide (i ≤ hi)
  | _ => false
theorem is_count (d : Nat) {v : MV} {lo hi : Int} {μ : Mem} (h : DatM μ v) : (T (d + 2)).call 1 [v, .int lo, .int hi] μ = .ok (.bl (inI lo hi v)) μ := by
  rw [run1]
  simp only [runD, d1, fullArgs, slots]
  cases v <;> simp [is_integer d h, isIntM, cmpM, inI]
  rename_i i
  by_cases h1 : lo ≤ i <;> simp [h1]
/-- check_count -/
theorem check_count (d : Nat) {v : MV} {lo hi : Int} {μ : Mem} (h : DatM μ v) : (T (d + 3)).call 2 [v, .int lo, .int hi] μ = if inI lo hi v then .ok .non μ else .exc ⟨1, []⟩ μ := by
  rw [run2]
  simp only [runD, d2, fullArgs, slots]
  simp [is_count d h, evS, mkX, prog, clss]
  cases inI lo hi v <;> simp
end Mch.k00

/-! ## k00: rows, primes -/
namespace Mch.k00
open PySem Mch
/-- is_whole_row -/
def goodM : MV → Bool
  | .tup xs => xs.all isIntM
  | _ => false
def RowOk (v : MV) : Prop := ∀ xs, v = .tup xs → xs.length ≤ 100 ∧ ∀ x ∈ xs, flatM x = true
theorem is_whole_row (d : Nat) {v : MV} {μ : Mem} (h : DatM μ v) (hr : RowOk v) : ((T (d + 2)).call 3 [v] μ).To fun r μ' => r = .bl (goodM v) ∧ Grow [] μ μ' := by
  rw [run3]
  simp only [runD, d3, fullArgs, slots]
  by_cases ht : isTupM v = true
  · cases v <;> simp only [isTupM, Bool.false_eq_true] at ht
    rename_i xs
    obtain ⟨h1, h2⟩ := hr xs rfl
    have hc : evE (T (d + 1)) (.comp (.call 0 [.var 1]) (.var 1) (.var 0) (.bl true) [1]) [some (.tup xs), none] μ = .ok (.ref μ.length) (μ ++ [.lst (xs.map fun x => .bl (isIntM x))]) := by
      rw [← fm_some]
      refine comp_pure _ (by rw [Tn]; omega) (by rw [sl]; omega) (E_var rfl) rfl fun x hm => ⟨_, by simp only [T_var]; rfl, ?_⟩
      unfold turnE
      simp [is_integer d (flat_dat (μ := μ) (h2 x hm))]
    simp [ty_tup h, isTupM, hc, goodM, Grow.app]
  · have e : isTupM v = false := by simpa using ht
    have eg : goodM v = false := by cases v <;> first | rfl | (simp [isTupM] at e)
    simp [ty_tup h, e, eg, Grow.refl]
/-- is_prime -/
def ndP (i : Int) : MV → Bool
  | .int k => !decide (i.fmod k = 0)
  | _ => false
def primeM (v : MV) : Bool := inI 2 1000 v && (match v with
  | .int i => (rngL 2 (i - 2).toNat 1).all (ndP i)
  | _ => false)
theorem is_prime (d : Nat) {v : MV} {μ : Mem} (h : DatM μ v) : ((T (d + 3)).call 8 [v] μ).To fun r μ' => r = .bl (primeM v) ∧ Grow [] μ μ' := by
  rw [run8]
  simp only [runD, d8, fullArgs, slots]
  by_cases hv : inI 2 1000 v = true
  · cases v <;> simp only [inI, Bool.false_eq_true] at hv
    rename_i i
    simp only [Bool.and_eq_true, decide_eq_true_eq] at hv
    have hc : evE (T (d + 2)) (.comp (.cmp .NotEq (.bin .Mod (.var 0) (.var 1)) (.int 0)) (.var 1) (.rng [(.int 2), (.var 0)]) (.bl true) [1]) [some (.int i), none] μ = .ok (.ref μ.length) (μ ++ [.lst ((rngL 2 (i - 2).toNat 1).map fun x => .bl (ndP i x))]) := by
      rw [← fm_some]
      refine comp_pure (J := .rng 2 (i - 2).toNat 1) (μ1 := μ) _ (by rw [Tn]; simp; omega) (by rw [sl]; simp; omega) ?_ (by simp only [items]) fun x hm => ⟨_, by simp only [T_var]; rfl, ?_⟩
      · simp [rngM]
        omega
      · obtain ⟨k, rfl, hk, _⟩ := mem_rngL hm
        unfold turnE
        have hk2 : k ≠ 0 := by omega
        simp [binM, hk2, ndP]
    simp [is_count (d + 0) h, inI, hv, hc, primeM, Grow.app]
  · have e : inI 2 1000 v = false := by simpa using hv
    simp [is_count (d + 0) h, primeM, e, Grow.refl]
end Mch.k00

/-! ## k00: numbers -/
namespace Mch.k00
open PySem Mch
theorem run4 (d : Nat) (args : List MV) (μ : Mem) : (T (d + 1)).call 4 args μ = runD (T d) d4 args μ := rfl
theorem run5 (d : Nat) (args : List MV) (μ : Mem) : (T (d + 1)).call 5 args μ = runD (T d) d5 args μ := rfl
theorem run6 (d : Nat) (args : List MV) (μ : Mem) : (T (d + 1)).call 6 args μ = runD (T d) d6 args μ := rfl
theorem run7 (d : Nat) (args : List MV) (μ : Mem) : (T (d + 1)).call 7 args μ = runD (T d) d7 args μ := rfl
theorem run9 (d : Nat) (args : List MV) (μ : Mem) : (T (d + 1)).call 9 args μ = runD (T d) d9 args μ := rfl
theorem run10 (d : Nat) (args : List MV) (μ : Mem) : (T (d + 1)).call 10 args μ = runD (T d) d10 args μ := rfl
theorem run18 (d : Nat) (args : List MV) (μ : Mem) : (T (d + 1)).call 18 args μ = runD (T d) d18 args μ := rfl
/-- common -/
theorem common (d : Nat) {a b : Int} {μ : Mem} (hb : b.natAbs < 99990) : (T (d + 1)).call 4 [.int a, .int b] μ = .ok (.int (Int.gcd a b : Nat)) μ := by
  rw [run4]
  refine R.To.is (runD_to rfl rfl ?_)
  simp only [d4, slots]
  simp only [List.map_cons, List.map_nil, List.length_cons, List.length_nil, Nat.sub_self, List.replicate_zero, List.append_nil, B_cons, S_asg, E_tup, Es_cons, Es_nil, E_bi, E_var0, E_varS, bind_ok', bi_abs, newT2, stm_ok', A_tup, Ag_cons, Ag_nil, A_var, if_true, calm_ok', go_next, List.set_cons_zero, List.set_cons_succ]
  refine RS.To.go ?_
  rw [S_while]
  refine whileL_to (I := fun m σ ν => ∃ x y : Nat, σ = [some (.int x), some (.int y)] ∧ y ≤ m ∧ Nat.gcd x y = Int.gcd a b ∧ ν = μ) ?_ _ b.natAbs _ _ (by rw [Tn]; omega) ⟨a.natAbs, b.natAbs, rfl, Nat.le_refl _, rfl, rfl⟩
  rintro m σ ν ⟨x, y, rfl, hym, hg, rfl⟩
  simp only [E_cmp, E_var0, E_varS, E_int, bind_ok', cmp_gt, opt_some, tru_bl, To_ok]
  by_cases hy : 0 < y
  · have hy' : (0 : Int) < y := by omega
    rw [if_pos (by simpa using hy)]
    refine ⟨m - 1, by omega, ?_⟩
    have hm : (y : Int) ≠ 0 := by omega
    simp only [B_cons, B_nil, S_asg, E_tup, Es_cons, Es_nil, E_bin, E_var0, E_varS, bind_ok', bin_mod hm, newT2, stm_ok', A_tup, Ag_cons, Ag_nil, A_var, List.length_cons, List.length_nil, if_true, calm_ok', go_next, List.set_cons_zero, List.set_cons_succ, STo_ok, turnT]
    refine ⟨y, x % y, by rw [Int.ofNat_fmod], ?_, ?_, by trivial⟩
    · have := Nat.mod_lt x hy
      omega
    · rw [← hg, Nat.gcd_comm x y, Nat.gcd_rec y x, Nat.gcd_comm]
  · have : y = 0 := by omega
    subst this
    rw [if_neg (by simp)]
    simp only [goT_next, retT_ret, B_cons, B_nil, S_ret, E_var0, stm_ok', go_ret, STo_ok]
    rw [← hg, Nat.gcd_zero_right]
    exact ⟨rfl, by trivial⟩
/-- _law_common -/
theorem law_common (d : Nat) {a b : Int} {μ : Mem} (hb : b.natAbs < 99990) : (T (d + 1)).call 18 [.int a, .int b] μ = .ok (.int (Int.gcd a b : Nat)) μ := by
  rw [run18]
  refine R.To.is (runD_to rfl rfl ?_)
  simp only [d18, slots]
  simp only [List.map_cons, List.map_nil, List.length_cons, List.length_nil, Nat.sub_self, List.replicate_zero, List.append_nil, B_cons]
  refine RS.To.go ?_
  rw [S_while]
  refine whileL_to (I := fun m σ ν => ∃ x y : Int, σ = [some (.int x), some (.int y)] ∧ y.natAbs ≤ m ∧ Int.gcd x y = Int.gcd a b ∧ ν = μ) ?_ _ b.natAbs _ _ (by rw [Tn]; omega) ⟨a, b, rfl, Nat.le_refl _, rfl, rfl⟩
  rintro m σ ν ⟨x, y, rfl, hym, hg, rfl⟩
  simp only [E_cmp, E_var0, E_varS, E_int, bind_ok', cmp_nei, opt_some, tru_bl, To_ok]
  by_cases hy : y = 0
  · subst hy
    rw [if_neg (by simp)]
    simp only [goT_next, retT_ret, B_cons, B_nil, S_ret, E_bi, Es_cons, Es_nil, bind_ok', bi_abs, E_var0, stm_ok', go_ret, STo_ok]
    rw [← hg, Int.gcd_zero]
    exact ⟨rfl, by trivial⟩
  · rw [if_pos (by simpa using hy)]
    refine ⟨m - 1, by omega, ?_⟩
    simp only [B_cons, B_nil, S_asg, E_tup, Es_cons, Es_nil, E_bin, E_bi, E_var0, E_varS, bind_ok', bi_int, bin_mod hy, newT2, stm_ok', A_tup, Ag_cons, Ag_nil, A_var, List.length_cons, List.length_nil, if_true, calm_ok', go_next, List.set_cons_zero, List.set_cons_succ, STo_ok, turnT]
    refine ⟨y, x.fmod y, rfl, ?_, ?_, by trivial⟩
    · have := fmod_lt' x hy
      omega
    · rw [gcd_fmod, hg]
/-- bezout -/
theorem bezout (d : Nat) {a b : Int} {μ : Mem} (ha : a.natAbs < 90000) (hb : b.natAbs < 90000) : ((T (d + 1)).call 5 [.int a, .int b] μ).To fun r ν => ∃ x y : Int, r = .tup [.int (Int.gcd a b : Nat), .int x, .int y] ∧ ν = μ ∧ a * x + b * y = (Int.gcd a b : Nat) := by
    rw [run5]
    refine runD_to rfl rfl ?_
    simp only [d5, slots]
    simp only [List.map_cons, List.map_nil, List.length_cons, List.length_nil, B_cons, S_asg, E_tup, Es_cons, Es_nil, E_int, bind_ok', newT4, stm_ok', A_tup, Ag_cons, Ag_nil, A_var, if_true, calm_ok', go_next, List.replicate, Nat.reduceAdd, Nat.reduceSub, List.cons_append, List.nil_append, List.set_cons_zero, List.set_cons_succ]
    refine RS.To.go ?_
    rw [S_while]
    refine whileL_to (I := fun m σ ν => ∃ (x y s t u v : Int) (o : Option MV), σ = [some (.int x), some (.int y), some (.int s), some (.int t), some (.int u), some (.int v), o] ∧ y.natAbs ≤ m ∧ (x.natAbs < 90000 ∧ y.natAbs < 90000) ∧ Int.gcd x y = Int.gcd a b ∧ a * s + b * t = x ∧ a * u + b * v = y ∧ ν = μ) ?_ _ b.natAbs _ _ (by rw [Tn]; omega) ⟨a, b, 1, 0, 0, 1, none, rfl, Nat.le_refl _, ⟨ha, hb⟩, rfl, by simp, by simp, rfl⟩
    rintro m σ ν ⟨x, y, s, t, u, v, o, rfl, hym, ⟨hx, hx2⟩, hg, h1, h2, rfl⟩
    simp only [E_cmp, E_var0, E_varS, E_int, bind_ok', cmp_nei, opt_some, tru_bl, To_ok]
    by_cases hy : y = 0
    · subst hy
      rw [if_neg (by simp)]
      rw [Int.gcd_zero] at hg
      simp only [goT_next, retT_ret, B_cons, B_nil, S_ret, E_ite, E_cmp, E_int, E_tup, E_neg, Es_cons, Es_nil, bind_ok', E_var0, E_varS, cmp_ge, opt_some, tru_bl, neg_int', newT3]
      by_cases hs : 0 ≤ x
      · have e : ((Int.gcd a b : Nat) : Int) = x := by omega
        simp only [decide_eq_true hs, if_true, stm_ok', go_ret, STo_ok, e]
        exact ⟨s, t, rfl, by trivial, h1⟩
      · have e : ((Int.gcd a b : Nat) : Int) = -x := by omega
        simp only [decide_eq_false hs, Bool.false_eq_true, if_false, stm_ok', go_ret, STo_ok, e]
        refine ⟨-s, -t, rfl, by trivial, ?_⟩
        rw [← h1, Int.mul_neg, Int.mul_neg]
        omega
    · rw [if_pos (by simpa using hy)]
      refine ⟨m - 1, by omega, ?_⟩
      have hq : ∀ z, mulOk (x.fdiv y) z = true := fun z => mulOk_l (by have := fdiv_abs x y; omega)
      have hd : divOk y = true := divOk_s hy (by omega)
      simp only [B_cons, B_nil, S_asg, E_tup, Es_cons, Es_nil, E_bin, E_var0, E_varS, bind_ok', bin_div hd, bin_mul (hq _), bin_sub, newT6, stm_ok', A_tup, Ag_cons, Ag_nil, A_var, List.length_cons, List.length_nil, if_true, calm_ok', go_next, List.set_cons_zero, List.set_cons_succ, STo_ok, turnT]
      have e0 : x - x.fdiv y * y = x.fmod y := by
        rw [Int.fmod_def, Int.mul_comm]
      have hl := fmod_lt' x hy
      have key : ∀ q : Int, a * (s - q * u) + b * (t - q * v) = x - q * y := fun q => by
        rw [← h1, ← h2, Int.mul_sub, Int.mul_sub, Int.mul_add, Int.mul_left_comm a, Int.mul_left_comm b]
        omega
      refine ⟨y, x - x.fdiv y * y, u, v, s - x.fdiv y * u, t - x.fdiv y * v, _, rfl, ?_, ⟨hx2, ?_⟩, ?_, h2, ?_, by trivial⟩
      · rw [e0]; omega
      · rw [e0]; omega
      · rw [e0, gcd_fmod, hg]
      · exact key _
end Mch.k00

/-! ## k00: multiples, divisors, powers -/
namespace Mch.k00
open PySem Mch
def lcmL (ks : List Nat) : Nat := ks.foldl Nat.lcm 1
theorem lcm_step (f x : Nat) (hf : 0 < f) : (((f : Int).fdiv (Int.gcd f x : Nat)) * x) = (Nat.lcm f x : Nat) := by
  have hg : Int.gcd (f : Int) (x : Int) = Nat.gcd f x := rfl
  rw [hg, ← Int.ofNat_fdiv, ← Int.natCast_mul]
  congr 1
  rw [Nat.lcm_eq_mul_div]
  obtain ⟨c, hc⟩ := Nat.gcd_dvd_left f x
  have gp : 0 < Nat.gcd f x := Nat.gcd_pos_of_pos_left x hf
  generalize Nat.gcd f x = g at hc gp
  subst hc
  rw [Nat.mul_div_cancel_left _ gp, Nat.mul_assoc, Nat.mul_div_cancel_left _ gp]
theorem foldl_take {ks : List Nat} {i x : Nat} (h : ks[i]? = some x) : lcmL (ks.take (i + 1)) = Nat.lcm (lcmL (ks.take i)) x := by
  unfold lcmL
  rw [take_succ' h, List.foldl_append]
  rfl
theorem lcm_pos {ks : List Nat} (hk : ∀ k ∈ ks, 1 ≤ k ∧ k ≤ 12) : ∀ i, 0 < lcmL (ks.take i) ∧ lcmL (ks.take i) ≤ 12 ^ i
  | 0 => by simp [lcmL]
  | i + 1 => by
    obtain ⟨h1, h2⟩ := lcm_pos hk i
    cases e : ks[i]? with
    | none =>
      have h3 : ks.length ≤ i := List.getElem?_eq_none_iff.mp e
      rw [List.take_of_length_le (by omega)] at h1 h2 ⊢
      refine ⟨h1, Nat.le_trans h2 ?_⟩
      exact Nat.pow_le_pow_right (by omega) (by omega)
    | some x =>
      rw [foldl_take e]
      have hx := hk x (List.mem_of_getElem? e)
      refine ⟨Nat.lcm_pos h1 (by omega), ?_⟩
      refine Nat.le_trans (Nat.lcm_le_mul h1 (by omega)) ?_
      rw [Nat.pow_succ]
      exact Nat.mul_le_mul h2 hx.2
/-- least_multiple -/
theorem least_multiple (d : Nat) {ks : List Nat} {μ : Mem} {a : Nat} (hk : ∀ k ∈ ks, 1 ≤ k ∧ k ≤ 12) (hl : ks.length ≤ 3) (h : lstAt μ a = some (ks.map fun (k : Nat) => .int k)) : (T (d + 2)).call 6 [.ref a] μ = .ok (.int (lcmL ks : Nat)) μ := by
  rw [run6]
  refine R.To.is (runD_to rfl rfl ?_)
  simp only [d6, slots]
  simp only [List.map_cons, List.map_nil, List.length_cons, List.length_nil, Nat.reduceSub, Nat.reduceAdd, List.replicate, List.cons_append, List.nil_append, B_cons, S_asg, E_int, stm_ok', A_var, calm_ok', go_next, List.set_cons_zero, List.set_cons_succ]
  refine RS.To.go ?_
  have hit : items μ (.ref a) = some (ks.map fun (k : Nat) => .int k) := h
  simp only [S_for, E_var0, stm_ok', itM_items hit]
  refine forL_to (xs := ks.map fun (k : Nat) => .int k) (I := fun i σ ν => ∃ o, σ = [some (.ref a), some (.int (lcmL (ks.take i) : Nat)), o] ∧ ν = μ) (fun i σ ν hI => ?_) (fun i x σ ν hx hI => ?_) (fun σ ν hI => ?_) _ 0 _ μ (Nat.zero_le _) (by rw [Tn]; simp; omega) ⟨none, by simp [lcmL], rfl⟩
  · obtain ⟨o, rfl, rfl⟩ := hI
    exact nth_items hit i
  · obtain ⟨o, rfl, rfl⟩ := hI
    rw [List.getElem?_map] at hx
    obtain ⟨k, hk1, rfl⟩ := Option.map_eq_some_iff.mp hx
    refine ⟨_, by simp only [T_var, List.set_cons_zero, List.set_cons_succ]; rfl, ?_⟩
    obtain ⟨hkl, hku⟩ := hk k (List.mem_of_getElem? hk1)
    obtain ⟨f1, f2⟩ := lcm_pos hk i
    have hi := (List.getElem?_eq_some_iff.mp hk1).1
    have hg : (0 : Nat) < Int.gcd (lcmL (ks.take i) : Nat) k := Int.gcd_pos_of_ne_zero_right _ (by omega)
    have hgl : Int.gcd (lcmL (ks.take i) : Nat) k ≤ k := by
      have := Int.gcd_le_natAbs_right (b := (k : Int)) (lcmL (ks.take i) : Nat) (by omega)
      simpa using this
    have hdv : divOk (Int.gcd (lcmL (ks.take i) : Nat) k : Nat) = true := divOk_s (by omega) (by omega)
    simp only [B_cons, B_nil, S_asg, E_bin, E_call, Es_cons, Es_nil, E_var0, E_varS, bind_ok', common d (show ((k : Nat) : Int).natAbs < 99990 by omega), bin_div hdv, bin_mul (mulOk_r (show ((k : Nat) : Int).natAbs < 2 ^ 64 by omega)), stm_ok', A_var, calm_ok', go_next, List.set_cons_zero, List.set_cons_succ, STo_ok, turnT_next]
    exact ⟨_, by rw [lcm_step _ _ f1, foldl_take hk1], by trivial⟩
  · obtain ⟨o, rfl, rfl⟩ := hI
    simp only [goT_next, B_cons, B_nil, S_ret, E_var0, E_varS, stm_ok', go_ret, STo_ok, retT_ret]
    rw [List.length_map, List.take_length]
    exact ⟨rfl, by trivial⟩
/-- divisors -/
def divF (n : Int) : MV → Option MV
  | .int k => if n.fmod k = 0 then some (.int k) else none
  | _ => none
def divL (n : Int) : List MV := (rngL 1 n.toNat 1).filterMap (divF n)
theorem divisors (d : Nat) {n : Int} {μ : Mem} (h : 1 ≤ n ∧ n ≤ 1000) : (T (d + 1)).call 7 [.int n] μ = .ok (.ref μ.length) (μ ++ [.lst (divL n)]) := by
  rw [run7]
  refine R.To.is (runD_to rfl rfl ?_)
  simp only [d7, slots]
  have hc : evE (T d) (.comp (.var 1) (.var 1) (.rng [(.int 1), (.bin .Add (.var 0) (.int 1))]) (.cmp .Eq (.bin .Mod (.var 0) (.var 1)) (.int 0)) [1]) [some (.int n), none] μ = .ok (.ref μ.length) (μ ++ [.lst (divL n)]) := by
    refine comp_pure (J := .rng 1 n.toNat 1) (μ1 := μ) _ (by rw [Tn]; simp; omega) (by rw [sl]; simp; omega) ?_ (by simp only [items]) fun x hm => ⟨_, by simp only [T_var]; rfl, ?_⟩
    · have e : (n + 1 - 1).toNat = n.toNat := by omega
      simp [rngM, e]
      omega
    · obtain ⟨k, rfl, hk, _⟩ := mem_rngL hm
      unfold turnE
      have hk2 : k ≠ 0 := by omega
      by_cases h0 : n.fmod k = 0 <;> simp [bin_mod hk2, divF, h0]
  simp [hc]
/-- power -/
theorem power (d : Nat) {a k : Int} {μ : Mem} (ha : a.natAbs < 1000) (hk : 0 ≤ k ∧ k < 1000) : (T (d + 1)).call 9 [.int a, .int k] μ = .ok (.int (a ^ k.toNat)) μ := by
  rw [run9]
  refine R.To.is (runD_to rfl rfl ?_)
  simp only [d9, slots]
  simp only [List.map_cons, List.map_nil, List.length_cons, List.length_nil, Nat.reduceSub, Nat.reduceAdd, List.replicate, List.cons_append, List.nil_append, B_cons, S_asg, E_int, stm_ok', A_var, calm_ok', go_next, List.set_cons_zero, List.set_cons_succ]
  refine RS.To.go ?_
  have hr : rngM μ [.int k] = .ok (.rng 0 k.toNat 1) μ := if_pos (by omega)
  simp only [S_for, E_rng, Es_cons, Es_nil, E_var0, E_varS, bind_ok', hr, stm_ok', itM]
  refine forL_to (xs := rngL 0 k.toNat 1) (I := fun i σ ν => ∃ o, σ = [some (.int a), some (.int k), some (.int (a ^ i)), o] ∧ ν = μ) (fun i σ ν hI => nth_items rfl i) (fun i x σ ν hx hI => ?_) (fun σ ν hI => ?_) _ 0 _ μ (Nat.zero_le _) (by rw [Tn]; simp; omega) ⟨none, by simp, rfl⟩
  · obtain ⟨o, rfl, rfl⟩ := hI
    refine ⟨_, by simp only [T_var, List.set_cons_zero, List.set_cons_succ]; rfl, ?_⟩
    simp only [B_cons, B_nil, S_asg, E_bin, E_var0, E_varS, bind_ok', bin_mul (mulOk_r (show a.natAbs < 2 ^ 64 by omega)), stm_ok', A_var, calm_ok', go_next, List.set_cons_zero, List.set_cons_succ, STo_ok, turnT_next]
    exact ⟨_, by rw [Int.pow_succ], by trivial⟩
  · obtain ⟨o, rfl, rfl⟩ := hI
    simp only [goT_next, B_cons, B_nil, S_ret, E_var0, E_varS, stm_ok', go_ret, STo_ok, retT_ret, rngL_len]
    exact ⟨by trivial, by trivial⟩
/-- sign_of -/
def sgn (x : Int) : Int := if x > 0 then 1 else if x < 0 then -1 else 0
theorem sign_of (d : Nat) {x : Int} {μ : Mem} : (T (d + 1)).call 10 [.int x] μ = .ok (.int (sgn x)) μ := by
  rw [run10]
  refine R.To.is (runD_to rfl rfl ?_)
  simp only [d10, slots]
  simp [sgn]
  by_cases h1 : 0 < x
  · have : ¬ x < 0 := by omega
    simp [h1, this]
  · by_cases h2 : x < 0 <;> simp [h1, h2]
end Mch.k00

/-! ## k00: rows of rows, draws -/
namespace Mch.k00
open PySem Mch
theorem run11 (d : Nat) (args : List MV) (μ : Mem) : (T (d + 1)).call 11 args μ = runD (T d) d11 args μ := rfl
theorem run12 (d : Nat) (args : List MV) (μ : Mem) : (T (d + 1)).call 12 args μ = runD (T d) d12 args μ := rfl
theorem run13 (d : Nat) (args : List MV) (μ : Mem) : (T (d + 1)).call 13 args μ = runD (T d) d13 args μ := rfl
theorem run14 (d : Nat) (args : List MV) (μ : Mem) : (T (d + 1)).call 14 args μ = runD (T d) d14 args μ := rfl
theorem run15 (d : Nat) (args : List MV) (μ : Mem) : (T (d + 1)).call 15 args μ = runD (T d) d15 args μ := rfl
theorem run17 (d : Nat) (args : List MV) (μ : Mem) : (T (d + 1)).call 17 args μ = runD (T d) d17 args μ := rfl
theorem run19 (d : Nat) (args : List MV) (μ : Mem) : (T (d + 1)).call 19 args μ = runD (T d) d19 args μ := rfl
def addR : MV → MV → MV
  | .tup xs, y => .tup (xs ++ [y])
  | _, _ => .non
def rowsL (lo : Int) (n : Nat) : Nat → List MV
  | 0 => [.tup []]
  | k + 1 => (rowsL lo n k).flatMap fun x => (rngL lo n 1).map (addR x)
theorem flat_len {f : MV → List MV} {n : Nat} : ∀ {xs : List MV}, (∀ x ∈ xs, (f x).length = n) → (xs.flatMap f).length = xs.length * n
  | [], _ => by simp
  | x :: xs, h => by
    rw [List.flatMap_cons, List.length_append, h x (by simp), flat_len (xs := xs) fun y hy => h y (by simp [hy]), List.length_cons, Nat.succ_mul]
    omega
theorem rows_len (lo : Int) (n : Nat) : ∀ k, (rowsL lo n k).length = n ^ k
  | 0 => rfl
  | k + 1 => by
    show ((rowsL lo n k).flatMap _).length = _
    rw [flat_len (n := n) fun x _ => by simp, rows_len lo n k, Nat.pow_succ]
theorem rows_mem {lo : Int} {n : Nat} : ∀ {k : Nat} {x : MV}, x ∈ rowsL lo n k → ∃ ys : List MV, x = .tup ys ∧ ys.length = k ∧ ∀ y ∈ ys, ∃ i : Int, y = .int i
  | 0, x, h => by
    simp only [rowsL, List.mem_singleton] at h
    subst h
    exact ⟨[], rfl, rfl, fun y hy => by simp at hy⟩
  | k + 1, x, h => by
    have h : x ∈ (rowsL lo n k).flatMap fun x => (rngL lo n 1).map (addR x) := h
    obtain ⟨z, h1, h2⟩ := List.mem_flatMap.mp h
    obtain ⟨ys, rfl, h3, h4⟩ := rows_mem h1
    obtain ⟨y, h5, rfl⟩ := List.mem_map.mp h2
    obtain ⟨i, rfl, _⟩ := mem_rngL h5
    refine ⟨ys ++ [.int i], rfl, by simp [h3], fun w hw => ?_⟩
    rcases List.mem_append.mp hw with hw | hw
    · exact h4 w hw
    · simp at hw
      exact ⟨i, hw⟩
theorem rows_dat {lo : Int} {n k : Nat} {μ : Mem} {m : Nat} : ∀ x ∈ rowsL lo n k, ∃ d, toD μ (m + 2) x = some d := fun x hx => by
  obtain ⟨ys, rfl, _, h⟩ := rows_mem hx
  exact toD_tup h
theorem rows_small {lo : Int} {n : Nat} (hn : n ≤ 4) {k : Nat} (hk : k ≤ 3) : (rowsL lo n k).length ≤ 64 := by
  rw [rows_len]
  calc n ^ k ≤ 4 ^ k := Nat.pow_le_pow_left hn k
    _ ≤ 4 ^ 3 := Nat.pow_le_pow_right (by omega) hk
/-- rows_to -/
theorem rows_to (d : Nat) {w lo hi : Int} {μ : Mem} (hw : 0 ≤ w ∧ w ≤ 3) (hh : lo ≤ hi + 1 ∧ hi + 1 ≤ lo + 4) (hb : -1000 ≤ lo ∧ lo ≤ 1000) :
    ((T (d + 1)).call 11 [.int w, .int lo, .int hi] μ).To fun r ν => ∃ b, r = .ref b ∧ lstAt ν b = some (rowsL lo (hi + 1 - lo).toNat w.toNat) ∧ Grow [] μ ν := by
  rw [run11]
  refine runD_to rfl rfl ?_
  simp only [d11, slots]
  simp only [List.map_cons, List.map_nil, List.length_cons, List.length_nil, Nat.reduceSub, Nat.reduceAdd, List.replicate, List.cons_append, List.nil_append, B_cons, S_asg, E_lst, E_tup, Es_cons, Es_nil, bind_ok', newT0, newL1, stm_ok', A_var, calm_ok', go_next, List.set_cons_zero, List.set_cons_succ]
  refine RS.To.go ?_
  have hr : ∀ ν, rngM ν [.int w] = .ok (.rng 0 w.toNat 1) ν := fun ν => if_pos (by omega)
  simp only [S_for, E_rng, Es_cons, Es_nil, E_var0, bind_ok', hr, stm_ok', itM]
  refine forL_to (xs := rngL 0 w.toNat 1) (I := fun i σ ν => ∃ b o, σ = [some (.int w), some (.int lo), some (.int hi), some (.ref b), o, none, none] ∧ lstAt ν b = some (rowsL lo (hi + 1 - lo).toNat i) ∧ Grow [] μ ν) (fun i σ ν hI => nth_items rfl i) (fun i x σ ν hx hI => ?_) (fun σ ν hI => ?_) _ 0 _ _ (Nat.zero_le _) (by rw [Tn]; simp; omega) ⟨μ.length, none, rfl, lstAt_new, Grow.app _ _ _⟩
  · obtain ⟨b, o, rfl, hl, hg⟩ := hI
    refine ⟨_, by simp only [T_var, List.set_cons_zero, List.set_cons_succ]; rfl, ?_⟩
    have hi3 : i < 3 := by
      have := (List.getElem?_eq_some_iff.mp hx).1
      simp at this
      omega
    have hn4 : (hi + 1 - lo).toNat ≤ 4 := by omega
    have hc : evE (T d) (.comp2 (.bin .Add (.var 5) (.tup [(.var 6)])) (.var 5) (.var 3) (.bl true) (.var 6) (.rng [(.var 1), (.bin .Add (.var 2) (.int 1))]) (.bl true) [5, 6] [6]) [some (.int w), some (.int lo), some (.int hi), some (.ref b), some x, none, none] ν = .ok (.ref ν.length) (ν ++ [.lst (rowsL lo (hi + 1 - lo).toNat (i + 1))]) := by
      refine comp2_pure (J := .ref b) (xs := rowsL lo (hi + 1 - lo).toNat i) (fun _ => .rng lo (hi + 1 - lo).toNat 1) (fun _ => rngL lo (hi + 1 - lo).toNat 1) addR ?_ (E_var rfl) hl ?_ fun x hm => ?_
      · rw [Tn]
        have := rows_small (lo := lo) hn4 (k := i) (by omega)
        omega
      · have := rows_small (lo := lo) hn4 (k := i + 1) (by omega)
        rw [sl]
        exact Nat.le_trans this (by omega)
      · obtain ⟨ys, rfl, hy1, hy2⟩ := rows_mem hm
        refine ⟨_, by simp only [T_var]; rfl, ?_, rfl, by rw [Tn]; simp; omega, fun y hy => ⟨_, by simp only [T_var]; rfl, ?_⟩⟩
        · have hr2 : ∀ ν, rngM ν [.int lo, .int (hi + 1)] = .ok (.rng lo (hi + 1 - lo).toNat 1) ν := fun ν => if_pos (by omega)
          simp [hr2]
        · have hz : (ys ++ [y]).length ≤ sizeLine := by rw [sl]; simp; omega
          simp [binM, newT_ok' hz, addR]
    simp only [B_cons, B_nil, S_asg, hc, stm_ok', A_var, calm_ok', go_next, List.set_cons_zero, List.set_cons_succ, STo_ok, turnT_next]
    exact ⟨_, _, rfl, lstAt_new, hg.trans (Grow.app _ _ _)⟩
  · obtain ⟨b, o, rfl, hl, hg⟩ := hI
    simp only [goT_next, B_cons, B_nil, S_ret, E_var0, E_varS, stm_ok', go_ret, STo_ok, retT_ret]
    rw [rngL_len] at hl
    exact ⟨b, rfl, hl, hg⟩
/-! ### the draws -/
/-- the state of the draws stands at i -/
def St (i : Nat) (μ : Mem) : Prop := ∃ s t : Int, μ[i]? = some (.lst [.int s, .int t]) ∧ 0 ≤ s
/-- _law_take -/
theorem law_take (d : Nat) {i : Nat} {μ : Mem} {m : Int} (h : St i μ) (hm : 0 < m ∧ m < 1073741824) : ((T (d + 1)).call 14 [.ref i, .int m] μ).To fun r ν => ∃ x : Int, r = .int x ∧ 0 ≤ x ∧ x < m ∧ St i ν ∧ Grow [i] μ ν := by
  obtain ⟨s, t, h1, h2⟩ := h
  have hi : i < μ.length := (List.getElem?_eq_some_iff.mp h1).1
  have hl : lstAt μ i = some [.int s, .int t] := by unfold lstAt; rw [h1]
  have hd : divOk m = true := divOk_s (by omega) (by omega)
  have hd7 : divOk 7 = true := by decide
  have hm0 : m ≠ 0 := by omega
  have hg : ∀ c, Grow [i] μ (μ.set i c) := fun c => ⟨by simp, fun j hj hn => List.getElem?_set_ne (by simp at hn; exact fun e => hn e.symm)⟩
  have i0 : idxM μ (.ref i) (.int 0) = some (.int s) := by simp [idxM, hl, ixM]
  have i1 : idxM μ (.ref i) (.int 1) = some (.int t) := by simp [idxM, hl, ixM]
  rw [run14]
  refine runD_to rfl rfl ?_
  simp only [d14, slots]
  by_cases hs : 0 < s
  · have hset : ∀ v, setM μ (.ref i) (.int 0) v = .ok () (μ.set i (.lst [v, .int t])) := fun v => by simp [setM, h1, ixM]
    simp [i0, hs, bin_mod hm0, bin_div hd, hset]
    refine ⟨Int.fmod_nonneg_of_pos _ hm.1, Int.fmod_lt_of_pos _ hm.1, ⟨s.fdiv m, t, by rw [List.getElem?_set_self hi], ?_⟩, hg _⟩
    exact Int.fdiv_nonneg (by omega) (by omega)
  · generalize ht : (t * 48271 + 11).fmod 2147483647 = t'
    have hset : ∀ v, setM μ (.ref i) (.int 1) v = .ok () (μ.set i (.lst [.int s, v])) := fun v => by simp [setM, h1, ixM]
    have i1' : idxM (μ.set i (.lst [.int s, .int t'])) (.ref i) (.int 1) = some (.int t') := by simp [idxM, lstAt, hi, ixM]
    have hmul : mulOk t 48271 = true := mulOk_r (by decide)
    simp [i0, i1, hs, bin_mul hmul, bin_mod (show (2147483647 : Int) ≠ 0 by decide), hset, ht, i1', bin_div hd7, bin_mod hm0]
    exact ⟨Int.fmod_nonneg_of_pos _ hm.1, Int.fmod_lt_of_pos _ hm.1, ⟨s, t', by rw [List.getElem?_set_self hi], h2⟩, hg _⟩
/-- _law_state -/
theorem law_state (d : Nat) {a : Nat} {ns : List Int} {μ : Mem} (hl : ns.length ≤ 63) (h : lstAt μ a = some (ns.map MV.int)) : ((T (d + 1)).call 13 [.ref a] μ).To fun r ν => ∃ i, r = .ref i ∧ St i ν ∧ Grow [] μ ν := by
  rw [run13]
  refine runD_to rfl rfl ?_
  simp only [d13, slots]
  have hcut : cutM (ns.map MV.int) none (some 63) = ns.map MV.int := by
    unfold cutM sIxM
    simp only [List.length_map, List.drop_zero, Nat.sub_zero]
    rw [if_neg (by omega), List.take_of_length_le]
    simp
    omega
  have hsl : slcM μ (.ref a) none (some 63) = .ok (.ref μ.length) (μ ++ [.lst (ns.map MV.int)]) := by
    simp only [slcM, h, hcut]
    exact newL_ok' (by rw [sl]; simp; omega)
  simp only [List.map_cons, List.map_nil, List.length_cons, List.length_nil, Nat.reduceSub, Nat.reduceAdd, List.replicate, List.cons_append, List.nil_append, B_cons, S_asg, E_int, stm_ok', A_var, calm_ok', go_next, List.set_cons_zero, List.set_cons_succ]
  refine RS.To.go ?_
  have hit : items (μ ++ [.lst (ns.map MV.int)]) (.ref μ.length) = some (ns.map MV.int) := lstAt_new
  have h63 : partR false (R.ok (MV.int 63) μ) μ = .ok (some 63) μ := rfl
  have hno : partR true (R.ok MV.non μ) μ = .ok none μ := rfl
  simp only [S_for, E_slc, E_var0, E_non, E_int, E.isNon, bind_ok', h63, hno, hsl, stm_ok', itM_items hit]
  refine forL_to (xs := ns.map MV.int) (I := fun i σ ν => ∃ (s t : Int) (o : Option MV), σ = [some (.ref a), some (.int s), some (.int t), o] ∧ 0 ≤ s ∧ ν = μ ++ [.lst (ns.map MV.int)]) (fun i σ ν hI => ?_) (fun i x σ ν hx hI => ?_) (fun σ ν hI => ?_) _ 0 _ _ (Nat.zero_le _) (by rw [Tn]; simp; omega) ⟨0, 1, none, rfl, by omega, rfl⟩
  · obtain ⟨s, t, o, rfl, hs, rfl⟩ := hI
    exact nth_items hit i
  · obtain ⟨s, t, o, rfl, hs, rfl⟩ := hI
    rw [List.getElem?_map] at hx
    obtain ⟨z, _, rfl⟩ := Option.map_eq_some_iff.mp hx
    refine ⟨_, by simp only [T_var, List.set_cons_zero, List.set_cons_succ]; rfl, ?_⟩
    simp only [B_cons, B_nil, S_asg, E_bin, E_bi, Es_cons, Es_nil, E_int, E_var0, E_varS, bind_ok', bin_add, bi_abs, bi_int, bin_mul (mulOk_r (show (1000003 : Int).natAbs < 2 ^ 64 by decide)), bin_mul (mulOk_r (show (48271 : Int).natAbs < 2 ^ 64 by decide)), bin_mod (show (2147483647 : Int) ≠ 0 by decide), stm_ok', A_var, calm_ok', go_next, List.set_cons_zero, List.set_cons_succ, STo_ok, turnT_next]
    exact ⟨_, _, _, rfl, by omega, by trivial⟩
  · obtain ⟨s, t, o, rfl, hs, rfl⟩ := hI
    have fin : ∀ t' : Int, ((R.ok (MV.ref (μ ++ [Cell.lst (ns.map MV.int)]).length) ((μ ++ [Cell.lst (ns.map MV.int)]) ++ [Cell.lst [MV.int s, MV.int t']]) : R MV)).To fun r ν => ∃ i, r = .ref i ∧ St i ν ∧ Grow [] μ ν := fun t' =>
      ⟨_, rfl, ⟨s, t', get_new, hs⟩, (Grow.app _ _ _).trans (Grow.app _ _ _)⟩
    simp only [goT_next, B_cons, B_nil, S_ret, E_lst, E_ite, E_cmp, Es_cons, Es_nil, E_var0, E_varS, E_int, bind_ok', cmp_nei, opt_some, tru_bl]
    by_cases ht : t = 1973665155
    · simp only [ht, decide_true, Bool.not_true, Bool.false_eq_true, if_false, bind_ok', newL2, stm_ok', go_ret, STo_ok, retT_ret]
      exact fin 7
    · simp only [ht, decide_false, Bool.not_false, if_true, bind_ok', newL2, stm_ok', go_ret, STo_ok, retT_ret]
      exact fin t
/-- _law_says -/
theorem law_says (d : Nat) {b c : Bool} {μ : Mem} : (T (d + 1)).call 15 [.bl b, .bl c] μ = .ok (.bl (decide (b = c))) μ := by
  rw [run15]
  refine R.To.is (runD_to rfl rfl ?_)
  simp only [d15, slots]
  simp [tysM, tyM]
/-- _law_same of ints -/
theorem law_same_int (d : Nat) {a b : Int} {μ : Mem} : (T (d + 2)).call 17 [.int a, .int b] μ = .ok (.bl (decide (a = b))) μ := by
  rw [run17]
  refine R.To.is (runD_to rfl rfl ?_)
  simp only [d17, slots]
  simp [tysM, tyM, cmpM, law_is_whole d (v := .int a) (μ := μ) trivial, isIntM]
/-- row_text: a text -/
def commaT : Str := ","
end Mch.k00

/-! ## k00: the rows' texts -/
namespace Mch.k00
open PySem PySem.Builtin PySem.Builtin.Str Mch
def strI : MV → Str
  | .int a => (toString a : String)
  | _ => ""
theorem ok_append {a b : Str} (ha : PyData.strOk a = true) (hb : PyData.strOk b = true) : PyData.strOk (a ++ b) = true := by
  show (a.cps ++ b.cps).all (· < 0x110000) = true
  rw [Array.all_append]
  exact Bool.and_eq_true_iff.mpr ⟨ha, hb⟩
theorem ok_sjoin {s : Str} (hs : PyData.strOk s = true) : ∀ {ys : List Str}, (∀ y ∈ ys, PyData.strOk y = true) → PyData.strOk (Str.join s ys) = true
  | [], _ => by show PyData.strOk Str.empty = true; decide +kernel
  | [x], h => h x (by simp)
  | x :: y :: r, h => ok_append (ok_append (h x (by simp)) hs) (ok_sjoin hs (ys := y :: r) fun z hz => h z (List.mem_cons_of_mem _ hz))
theorem ok_join {s : Str} (hs : PyData.strOk s = true) {ys : List Str} (h : ∀ y ∈ ys, PyData.strOk y = true) : PyData.strOk (Txt.join s ys) = true := by
  unfold Txt.join
  rw [show glued s ys = Str.join s ys from PySem.StrLaws.glued_eq_join s ys]
  exact ok_sjoin hs h
def small (x : MV) : Prop := ∃ i : Int, x = .int i ∧ -4 ≤ i ∧ i ≤ 4
theorem small_txt {x : MV} (h : small x) : (strI x).length ≤ 2 ∧ PyData.strOk (strI x) = true := by
  obtain ⟨i, rfl, h1, h2⟩ := h
  have : i = -4 ∨ i = -3 ∨ i = -2 ∨ i = -1 ∨ i = 0 ∨ i = 1 ∨ i = 2 ∨ i = 3 ∨ i = 4 := by omega
  rcases this with rfl | rfl | rfl | rfl | rfl | rfl | rfl | rfl | rfl <;> decide +kernel
theorem bi_str {μ : Mem} {x : MV} (h : small x) : biM μ .str [x] = .ok (.str (strI x)) μ := by
  obtain ⟨i, rfl, h1, h2⟩ := h
  refine if_pos ?_
  have : i.natAbs ≤ 4 := by omega
  have h3 : i.natAbs.log2 ≤ i.natAbs := Nat.log2_le_self _
  omega
def rowTxt (xs : List MV) : Str := if xs.length = 0 then "-" else Txt.join "," (xs.map strI)
theorem row_ok {xs : List MV} (h : ∀ x ∈ xs, small x) : PyData.strOk (rowTxt xs) = true := by
  unfold rowTxt
  split
  · decide +kernel
  · refine ok_join (by decide +kernel) fun y hy => ?_
    obtain ⟨x, hx, rfl⟩ := List.mem_map.mp hy
    exact (small_txt (h x hx)).2
theorem sum_le {xs : List MV} (h : ∀ x ∈ xs, small x) : ((xs.map strI).map (·.length)).sum ≤ xs.length * 2 := by
  induction xs with
  | nil => simp
  | cons x xs ih =>
    have h1 := (small_txt (h x (by simp))).1
    have h2 := ih fun y hy => h y (by simp [hy])
    simp only [List.map_cons, List.sum_cons, List.length_cons]
    omega
theorem join_ok {xs : List MV} {μ : Mem} (h : ∀ x ∈ xs, small x) (hl : xs.length ≤ 10) : mthM (μ ++ [.lst (xs.map fun x => .str (strI x))]) .join (.str ",") [.ref μ.length] = .ok (.str (Txt.join "," (xs.map strI))) (μ ++ [.lst (xs.map fun x => .str (strI x))]) := by
  simp only [mthM, lstAt_new, Option.bind_some, strs_map]
  refine if_pos ?_
  have h1 := sum_le h
  have h2 : (("," : Str)).length = 1 := by decide +kernel
  rw [h2, List.length_map]
  omega
/-- the text of a row of small ints, over a tuple or a list -/
theorem strcomp {T : Tab} {J : MV} {xs : List MV} {σ : Env} {μ : Mem} {i j : Nat} (hT : 10 < T.n) (hi : σ[i]? = some (some J)) (hJ : items μ J = some xs) (hj : j < σ.length) (h : ∀ x ∈ xs, small x) (hl : xs.length ≤ 10) :
    evE T (.comp (.bi .str [(.var j)]) (.var j) (.var i) (.bl true) [j]) σ μ = .ok (.ref μ.length) (μ ++ [.lst (xs.map fun x => .str (strI x))]) := by
  rw [← fm_some]
  refine comp_pure _ (by omega) (by rw [sl]; omega) (E_var hi) hJ fun x hm => ⟨_, by simp only [T_var]; rfl, ?_⟩
  have hv : ((wipeM σ [j]).set j (some x))[j]? = some (some x) := by
    rw [List.getElem?_set_self]
    simpa using hj
  unfold turnE
  simp only [E_bl, bind_ok', tru_bl, if_true, E_bi, Es_cons, Es_nil, E_var hv, bi_str (h x hm)]
theorem row_text (d : Nat) {xs : List MV} {μ : Mem} (h : ∀ x ∈ xs, small x) (hl : xs.length ≤ 10) : ((T (d + 1)).call 12 [.tup xs] μ).To fun r ν => r = .str (rowTxt xs) ∧ Grow [] μ ν := by
  rw [run12]
  refine runD_to rfl rfl ?_
  simp only [d12, slots]
  have hc := strcomp (T := T d) (J := .tup xs) (σ := [some (.tup xs), none]) (μ := μ) (i := 0) (j := 1) (by rw [Tn]; omega) rfl rfl (by simp) h hl
  by_cases h0 : xs.length = 0
  · simp [h0, biM, rowTxt, Grow.refl]
  · have h1 : (0 : Int) < xs.length := by omega
    have h2 : 0 < xs.length := by omega
    simp [h0, h1, h2, biM, mthTy, hc, join_ok h hl, rowTxt, Grow.app]
end Mch.k00

/-! ## k00: a call that may fail; the law's first loop -/
namespace Mch.k00
open PySem Mch
theorem law_result (d : Nat) {v : MV} {lo hi : Int} {μ : Mem} (h : DatM μ v) : (T (d + 4)).call 19 [.fn 2, .tup [v, .int lo, .int hi]] μ = .ok (.tup [.str (if inI lo hi v then "told" else "malformed"), .non]) μ := by
  rw [run19]
  refine R.To.is (runD_to rfl rfl ?_)
  simp only [d19, slots]
  have hl : ∀ a b c, biM μ .len [.tup [a, b, c]] = .ok (.int 3) μ := fun _ _ _ => rfl
  have hb : ∀ bb : List S, bb = [S.ite (.cmp .Eq (.bi .len [(.var 1)]) (.int 1)) [.ret (.tup [(.str "told"), (.callv 0 [(.idx (.var 1) (.int 0))])])] [], .ite (.cmp .Eq (.bi .len [(.var 1)]) (.int 2)) [.ret (.tup [(.str "told"), (.callv 0 [(.idx (.var 1) (.int 0)), (.idx (.var 1) (.int 1))])])] [], .ite (.cmp .Eq (.bi .len [(.var 1)]) (.int 3)) [.ret (.tup [(.str "told"), (.callv 0 [(.idx (.var 1) (.int 0)), (.idx (.var 1) (.int 1)), (.idx (.var 1) (.int 2))])])] [], .ite (.cmp .Eq (.bi .len [(.var 1)]) (.int 4)) [.ret (.tup [(.str "told"), (.callv 0 [(.idx (.var 1) (.int 0)), (.idx (.var 1) (.int 1)), (.idx (.var 1) (.int 2)), (.idx (.var 1) (.int 3))])])] [], .ret (.tup [(.str "told"), (.callv 0 [(.idx (.var 1) (.int 0)), (.idx (.var 1) (.int 1)), (.idx (.var 1) (.int 2)), (.idx (.var 1) (.int 3)), (.idx (.var 1) (.int 4))])])] →
      evB (T (d + 3)) bb [some (.fn 2), some (.tup [v, .int lo, .int hi]), none] μ = if inI lo hi v then .ok (.ret (.tup [.str "told", .non])) μ else .exc ⟨1, []⟩ [some (.fn 2), some (.tup [v, .int lo, .int hi]), none] μ := by
    rintro bb rfl
    simp [hl, idxM, ixM, check_count d h]
    cases inI lo hi v <;> simp
  simp only [List.map_cons, List.map_nil, List.length_cons, List.length_nil, Nat.reduceSub, Nat.reduceAdd, List.replicate, List.cons_append, List.nil_append]
  rw [B_cons, evS, hb _ rfl]
  cases inI lo hi v
  · simp [isX, TP, prog, clss, suite, RS.calm]
  · simp
end Mch.k00

/-! ## k00: the law, from its end -/
namespace Mch.k00
open PySem Mch
abbrev Tail (d k : Nat) (σ : Env) (ν : Mem) : Prop := (evB (T d) (d20.body.drop k) σ ν).To (retT fun r _ => r = .bl true)
theorem St.grow {i : Nat} {μ ν : Mem} (h : St i μ) (g : Grow [] μ ν) : St i ν := by
  obtain ⟨s, t, h1, h2⟩ := h
  exact ⟨s, t, g.get h1 (by simp), h2⟩
theorem St.lt {i : Nat} {μ : Mem} (h : St i μ) : i < μ.length := by
  obtain ⟨s, t, h1, _⟩ := h
  exact (List.getElem?_eq_some_iff.mp h1).1
/-- a draw, as an expression -/
theorem take_to {d i j : Nat} {σ : Env} {μ : Mem} {m : Int} (hj : σ[j]? = some (some (.ref i))) (h : St i μ) (hm : 0 < m ∧ m < 1073741824) : (evE (T (d + 1)) (.call 14 [.var j, .int m]) σ μ).To fun r ν => ∃ x : Int, r = .int x ∧ 0 ≤ x ∧ x < m ∧ St i ν ∧ Grow [i] μ ν := by
  simp only [E_call, Es_cons, Es_nil, E_var hj, E_int, bind_ok']
  exact law_take d h hm
/-- the draws of a row: a function of a draw, so many -/
theorem draws_to {d i j t : Nat} {σ : Env} {μ : Mem} {elt : E} {m : Int} {P : MV → Prop} (hj : σ[j]? = some (some (.ref i))) (ht : t < σ.length) (hjt : j ≠ t) (h : St i μ) (hm : 0 < m ∧ m ≤ 1000)
    (he : ∀ (σ : Env) (ν : Mem), σ[j]? = some (some (.ref i)) → St i ν → (evE (T (d + 1)) elt σ ν).To fun r ν' => P r ∧ St i ν' ∧ Grow [i] ν ν') :
    (evE (T (d + 1)) (.comp elt (.var t) (.rng [.call 14 [.var j, .int m]]) (.bl true) [t]) σ μ).To fun r ν => ∃ b xs, r = .ref b ∧ lstAt ν b = some xs ∧ b ≠ i ∧ (∀ x ∈ xs, P x) ∧ xs.length < m ∧ St i ν := by
  obtain ⟨r, ν, e, x, rfl, h1, h2, h3, h4⟩ := (take_to (d := d) hj h (show 0 < m ∧ m < 1073741824 by omega)).eq
  have hr : rngM ν [.int x] = .ok (.rng 0 x.toNat 1) ν := if_pos (by omega)
  refine comp_gen (J := .rng 0 x.toNat 1) (μ1 := ν) (xs := rngL 0 x.toNat 1) (I := fun k acc ν' => acc.length ≤ k ∧ (∀ y ∈ acc, P y) ∧ St i ν') (by rw [Tn]; simp; omega) (by rw [sl]; simp; omega) ?_ rfl ⟨by simp, by simp, h3⟩ (fun k acc ν' hI => ⟨rfl, hI.1⟩) (fun k y acc ν' hy hI => ⟨_, by simp only [T_var]; rfl, ?_⟩) fun acc ν' hI => ?_
  · simp only [E_rng, Es_cons, Es_nil, e, bind_ok', hr]
  · obtain ⟨a1, a2, a3⟩ := hI
    unfold turnE
    simp only [E_bl, bind_ok', tru_bl, if_true]
    have hj' : ((wipeM σ [t]).set t (some y))[j]? = some (some (.ref i)) := by
      simp only [wipe_cons, wipe_nil]
      rw [List.getElem?_set_ne (Ne.symm hjt), List.getElem?_set_ne (Ne.symm hjt)]
      exact hj
    refine R.To.bind ((he _ ν' hj' a3).imp fun r ν2 hr2 => ?_)
    refine ⟨by simp; omega, fun z hz => ?_, hr2.2.1⟩
    simp only [Option.toList_some, List.mem_append, List.mem_singleton] at hz
    rcases hz with hz | rfl
    · exact a2 z hz
    · exact hr2.1
  · obtain ⟨a1, a2, a3⟩ := hI
    refine ⟨_, acc, rfl, lstAt_new, ?_, a2, ?_, a3.grow (Grow.app _ _ _)⟩
    · have := a3.lt
      omega
    · rw [rngL_len] at a1
      omega
theorem t18 (d : Nat) {i : Nat} {σ : Env} {ν : Mem} (hL : σ.length = 28) (h1 : σ[1]? = some (some (.ref i))) (hS : St i ν) : Tail (d + 3) 18 σ ν := by
  show (evB (T (d + 3)) (d20.body.drop 18) σ ν).To _
  simp only [d20, List.drop_succ_cons, List.drop_zero, B_cons, S_asg]
  refine RS.To.go (R.To.stm ?_)
  refine (draws_to (d := d + 2) (i := i) (P := small) h1 (by omega) (by decide) hS (by decide) fun σ' ν' g1 g2 => ?_).imp fun r ν1 hr => ?_
  · simp only [E_bin]
    refine R.To.bind ((take_to (d := d + 2) g1 g2 (show (0 : Int) < 9 ∧ (9 : Int) < 1073741824 by decide)).imp fun r ν2 hr => ?_)
    obtain ⟨x, rfl, a1, a2, a3, a4⟩ := hr
    simp only [E_int, bind_ok', bin_sub, To_ok]
    exact ⟨⟨x - 4, rfl, by omega, by omega⟩, a3, a4⟩
  · obtain ⟨b, xs, rfl, b1, b2, b3, b4, b5⟩ := hr
    have hl : xs.length ≤ 10 := by omega
    have h9 : (σ.set 9 (some (.ref b)))[9]? = some (some (.ref b)) := List.getElem?_set_self (by omega)
    simp only [A_var, calm_ok', stm_ok', STo_ok, goT_next, B_cons, B_nil, S_ret]
    refine RS.To.go (R.To.stm ?_)
    simp only [E_cmp, E_call, Es_cons, Es_nil, E_bi, E_var h9, bind_ok']
    have ht : biM ν1 .tuple [.ref b] = .ok (.tup xs) ν1 := by simp only [biM, b1]
    simp only [ht, bind_ok']
    refine R.To.bind ((row_text (d + 2) b3 hl).imp fun r ν2 hr => ?_)
    obtain ⟨rfl, g2⟩ := hr
    have b1' := g2.lst b1 (by simp)
    have hlen : biM ν2 .len [.ref b] = .ok (.int xs.length) ν2 := by simp only [biM, b1']
    have hc := strcomp (T := T (d + 3)) (J := .ref b) (σ := σ.set 9 (some (.ref b))) (μ := ν2) (i := 9) (j := 21) (by rw [Tn]; omega) h9 b1' (by rw [List.length_set, hL]; decide) b3 hl
    have fin : ∀ ν, (R.opt (cmpM ν .Eq (.str (rowTxt xs)) (.str (rowTxt xs))) ν).bind (fun k μ => R.ok (MV.bl k) μ) = .ok (.bl true) ν := fun ν => by
      have e1 : toD ν 40 (.str (rowTxt xs)) = some (.str (rowTxt xs)) := if_pos (row_ok b3)
      have e2 : cmpM ν .Eq (.str (rowTxt xs)) (.str (rowTxt xs)) = some true := eq_self e1
      rw [e2]
      rfl
    by_cases h0 : xs.length = 0
    · have e0 : rowTxt xs = "-" := by unfold rowTxt; rw [if_pos h0]
      have f := fin ν2
      rw [e0] at f
      have hz : (0 : Int) < (xs.length : Int) ↔ False := by rw [h0]; simp
      simp only [E_ite, E_cmp, E_bi, Es_cons, Es_nil, E_var h9, E_int, E_str, bind_ok', hlen, cmp_gt, opt_some, tru_bl, hz, decide_false, Bool.false_eq_true, if_false, e0, f, To_ok, STo_ok, goT_ret, retT_ret]
    · have e0 : Txt.join "," (xs.map strI) = rowTxt xs := by unfold rowTxt; rw [if_neg h0]
      have f := fin
      have hz : (0 : Int) < (xs.length : Int) ↔ True := by simp; omega
      have hj := join_ok (μ := ν2) b3 hl
      simp only [E_ite, E_cmp, E_bi, E_mth, Es_cons, Es_nil, E_var h9, E_int, E_str, bind_ok', hlen, cmp_gt, opt_some, tru_bl, hz, decide_true, if_true, mthTy, hc, hj, e0, f, To_ok, STo_ok, goT_ret, retT_ret]
/-- a statement that goes on with σ' -/
theorem go_to {T : Tab} {s : S} {b : List S} {σ : Env} {μ : Mem} {P : Fl → Mem → Prop} (Q : Env → Mem → Prop) (h : (evS T s σ μ).To fun f ν => ∃ σ', f = .next σ' ∧ Q σ' ν) (k : ∀ σ' ν, Q σ' ν → (evB T b σ' ν).To P) : (evB T (s :: b) σ μ).To P := by
  rw [B_cons]
  refine RS.To.go (h.imp fun f ν hf => ?_)
  obtain ⟨σ', rfl, q⟩ := hf
  exact k σ' ν q
/-- the names of the loop of rows -/
def Has (σ : Env) (k : Nat) (v : MV) : Prop := σ[k]? = some (some v)
theorem Has.ne {σ : Env} {k j : Nat} {v : MV} {o : Option MV} (h : Has σ k v) (n : j ≠ k) : Has (σ.set j o) k v := by
  unfold Has
  rw [List.getElem?_set_ne n]
  exact h
theorem Has.self {σ : Env} {k : Nat} {v : MV} (h : k < σ.length) : Has (σ.set k (some v)) k v := List.getElem?_set_self h
theorem Has.ev {σ : Env} {k : Nat} {v : MV} (h : Has σ k v) (T : Tab) (μ : Mem) : evE T (.var k) σ μ = .ok v μ := E_var h
theorem rows_eq {lo : Int} {n k : Nat} {μ : Mem} {a b : Nat} (ha : lstAt μ a = some (rowsL lo n k)) (hb : lstAt μ b = some (rowsL lo n k)) : cmpM μ .NotEq (.ref a) (.ref b) = some false := by
  have : eqM μ (.ref a) (.ref b) = some true := eq_refs ha hb fun x hx => rows_dat (m := 37) x hx
  simp only [cmpM, this, Option.map_some, Bool.not_true]
/-- rows_to is told -/
theorem t17 (d : Nat) {i b : Nat} {w lo hi : Int} {σ : Env} {ν : Mem} (hL : σ.length = 28) (h1 : Has σ 1 (.ref i)) (h23 : Has σ 23 (.int w)) (h24 : Has σ 24 (.int lo)) (h7 : Has σ 7 (.int hi)) (h8 : Has σ 8 (.ref b)) (hw : 0 ≤ w ∧ w ≤ 3) (hh : lo ≤ hi + 1 ∧ hi + 1 ≤ lo + 4) (hb : -1000 ≤ lo ∧ lo ≤ 1000)
    (hl : lstAt ν b = some (rowsL lo (hi + 1 - lo).toNat w.toNat)) (hS : St i ν) : Tail (d + 3) 17 σ ν := by
  show (evB (T (d + 3)) (d20.body.drop 17) σ ν).To _
  have hd : d20.body.drop 17 = .ite (.or (.cmp .NotEq (.call 11 [(.var 23), (.var 24), (.var 7)]) (.var 8)) (.cmp .NotEq (.call 11 [(.int 0), (.int 1), (.int 0)]) (.lst [(.tup [])]))) [.ret (.bl false)] [] :: d20.body.drop 18 := rfl
  rw [hd]
  refine go_to (fun σ' ν' => σ' = σ ∧ Grow [] ν ν') ?_ fun σ' ν' h => by
    obtain ⟨rfl, g⟩ := h
    exact t18 d hL h1 (hS.grow g)
  rw [S_ite]
  refine R.To.stm ?_
  simp only [E_or, E_cmp, E_call, Es_cons, Es_nil, h23.ev, h24.ev, h7.ev, h8.ev, E_int, bind_ok']
  obtain ⟨r, ν1, e1, b1, rfl, l1, g1⟩ := (rows_to (d + 2) (μ := ν) hw hh hb).eq
  rw [e1]
  simp only [bind_ok', rows_eq l1 (g1.lst hl (by simp)), opt_some, tru_bl, Bool.false_eq_true, if_false]
  obtain ⟨r, ν2, e2, b2, rfl, l2, g2⟩ := (rows_to (d + 2) (w := 0) (lo := 1) (hi := 0) (μ := ν1) (by decide) (by decide) (by decide)).eq
  have hq : lstAt (ν2 ++ [.lst [.tup []]]) b2 = some (rowsL 1 0 0) := (Grow.app [] ν2 _).lst l2 (by simp)
  have hz : lstAt (ν2 ++ [.lst [.tup []]]) ν2.length = some (rowsL 1 0 0) := lstAt_new
  rw [e2]
  simp only [E_lst, E_tup, Es_cons, Es_nil, bind_ok', newT0, newL1, rows_eq hq hz, opt_some, tru_bl, Bool.false_eq_true, if_false, To_ok, stm_ok', STo_ok, B_nil]
  exact ⟨σ, rfl, rfl, (g1.trans g2).trans (Grow.app _ _ _)⟩
end Mch.k00

/-! ## k00: the law, the rows of rows -/
namespace Mch.k00
open PySem Mch
theorem lst_get {μ : Mem} {i : Nat} {xs : List MV} (h : μ[i]? = some (.lst xs)) : lstAt μ i = some xs := by unfold lstAt; rw [h]
theorem t16 (d : Nat) {i b : Nat} {w lo hi : Int} {σ : Env} {ν : Mem} (hL : σ.length = 28) (h1 : Has σ 1 (.ref i)) (h23 : Has σ 23 (.int w)) (h24 : Has σ 24 (.int lo)) (h7 : Has σ 7 (.int hi)) (h8 : Has σ 8 (.ref b)) (hw : 0 ≤ w ∧ w ≤ 3) (hh : lo ≤ hi + 1 ∧ hi + 1 ≤ lo + 4) (hb : -1000 ≤ lo ∧ lo ≤ 1000)
    (hl : lstAt ν b = some (rowsL lo (hi + 1 - lo).toNat 0)) (hS : St i ν) : Tail (d + 3) 16 σ ν := by
  show (evB (T (d + 3)) (d20.body.drop 16) σ ν).To _
  have hd : d20.body.drop 16 = .for (.var 4) (.rng [(.var 23)]) [.asg (.var 25) (.lst []), .for (.var 9) (.var 8) [.asg (.var 25) (.bin .Add (.var 25) (.comp (.bin .Add (.var 9) (.tup [(.var 21)])) (.var 21) (.rng [(.var 24), (.bin .Add (.var 7) (.int 1))]) (.bl true) [21]))], .asg (.var 8) (.var 25)] :: d20.body.drop 17 := rfl
  rw [hd, B_cons]
  refine RS.To.go ?_
  have hr : rngM ν [.int w] = .ok (.rng 0 w.toNat 1) ν := if_pos (by omega)
  have hn4 : (hi + 1 - lo).toNat ≤ 4 := by omega
  generalize hn : (hi + 1 - lo).toNat = n at *
  simp only [S_for, E_rng, Es_cons, Es_nil, h23.ev, bind_ok', hr, stm_ok', itM]
  refine forL_to (xs := rngL 0 w.toNat 1) (I := fun k σ ν => σ.length = 28 ∧ Has σ 1 (.ref i) ∧ Has σ 23 (.int w) ∧ Has σ 24 (.int lo) ∧ Has σ 7 (.int hi) ∧ (∃ b, Has σ 8 (.ref b) ∧ lstAt ν b = some (rowsL lo n k)) ∧ St i ν) (fun k σ ν hI => nth_items rfl k) (fun k x σ ν hx hI => ?_) (fun σ ν hI => ?_) _ 0 _ _ (Nat.zero_le _) (by rw [Tn]; simp; omega) ⟨hL, h1, h23, h24, h7, ⟨b, h8, hl⟩, hS⟩
  · obtain ⟨hL, h1, h23, h24, h7, ⟨b, h8, hl⟩, hS⟩ := hI
    have hk3 : k < 3 := by
      have := (List.getElem?_eq_some_iff.mp hx).1
      simp at this
      omega
    refine ⟨_, by simp only [T_var]; rfl, ?_⟩
    simp only [B_cons, S_asg, E_lst, Es_nil, bind_ok', newL0, stm_ok', A_var, calm_ok', go_next]
    generalize hσ1 : (σ.set 4 (some x)).set 25 (some (.ref ν.length)) = σ1
    have L1 : σ1.length = 28 := by rw [← hσ1, List.length_set, List.length_set, hL]
    have a1 : Has σ1 1 (.ref i) := by rw [← hσ1]; exact (h1.ne (by decide)).ne (by decide)
    have a23 : Has σ1 23 (.int w) := by rw [← hσ1]; exact (h23.ne (by decide)).ne (by decide)
    have a24 : Has σ1 24 (.int lo) := by rw [← hσ1]; exact (h24.ne (by decide)).ne (by decide)
    have a7 : Has σ1 7 (.int hi) := by rw [← hσ1]; exact (h7.ne (by decide)).ne (by decide)
    have a8 : Has σ1 8 (.ref b) := by rw [← hσ1]; exact (h8.ne (by decide)).ne (by decide)
    have a25 : Has σ1 25 (.ref ν.length) := by rw [← hσ1]; exact Has.self (by rw [List.length_set, hL]; decide)
    have g0 : Grow [] ν (ν ++ [.lst []]) := Grow.app _ _ _
    have hit : items (ν ++ [.lst []]) (.ref b) = some (rowsL lo n k) := g0.lst hl (by simp)
    refine RS.To.go ?_
    simp only [S_for, a8.ev, stm_ok', itM_items hit]
    have hsm := rows_small (lo := lo) hn4 (k := k) (by omega)
    refine forL_to (xs := rowsL lo n k) (I := fun j σ μ => σ.length = 28 ∧ Has σ 1 (.ref i) ∧ Has σ 23 (.int w) ∧ Has σ 24 (.int lo) ∧ Has σ 7 (.int hi) ∧ (∃ c, Has σ 25 (.ref c) ∧ μ[c]? = some (.lst (((rowsL lo n k).take j).flatMap fun x => (rngL lo n 1).map (addR x)))) ∧ Grow [] (ν ++ [.lst []]) μ) (fun j σ μ hI => nth_items (hI.2.2.2.2.2.2.items hit) j) (fun j y σ μ hy hI => ?_) (fun σ μ hI => ?_) _ 0 _ _ (Nat.zero_le _) (by rw [Tn]; omega) ⟨L1, a1, a23, a24, a7, ⟨_, a25, by simpa using get_new⟩, Grow.refl _ _⟩
    · obtain ⟨hL, h1, h23, h24, h7, ⟨c, h25, hc⟩, hg⟩ := hI
      refine ⟨_, by simp only [T_var]; rfl, ?_⟩
      obtain ⟨ys, rfl, y1, y2⟩ := rows_mem (List.mem_of_getElem? hy)
      generalize hσ2 : σ.set 9 (some (.tup ys)) = σ2
      have L2 : σ2.length = 28 := by rw [← hσ2, List.length_set, hL]
      have b1 : Has σ2 1 (.ref i) := by rw [← hσ2]; exact h1.ne (by decide)
      have b23 : Has σ2 23 (.int w) := by rw [← hσ2]; exact h23.ne (by decide)
      have b24 : Has σ2 24 (.int lo) := by rw [← hσ2]; exact h24.ne (by decide)
      have b7 : Has σ2 7 (.int hi) := by rw [← hσ2]; exact h7.ne (by decide)
      have b25 : Has σ2 25 (.ref c) := by rw [← hσ2]; exact h25.ne (by decide)
      have b9 : Has σ2 9 (.tup ys) := by rw [← hσ2]; exact Has.self (by rw [hL]; decide)
      have hcomp : evE (T (d + 3)) (.comp (.bin .Add (.var 9) (.tup [(.var 21)])) (.var 21) (.rng [(.var 24), (.bin .Add (.var 7) (.int 1))]) (.bl true) [21]) σ2 μ = .ok (.ref μ.length) (μ ++ [.lst ((rngL lo n 1).map (addR (.tup ys)))]) := by
        rw [← fm_some]
        refine comp_pure (J := .rng lo n 1) (μ1 := μ) _ (by rw [Tn]; simp; omega) (by rw [sl]; simp; omega) ?_ rfl fun z hz => ⟨_, by simp only [T_var]; rfl, ?_⟩
        · have hr2 : rngM μ [.int lo, .int (hi + 1)] = .ok (.rng lo (hi + 1 - lo).toNat 1) μ := if_pos (by omega)
          simp only [E_rng, Es_cons, Es_nil, b24.ev, E_bin, b7.ev, E_int, bind_ok', bin_add, hr2, hn]
        · have e9 : Has ((wipeM σ2 [21]).set 21 (some z)) 9 (.tup ys) := by
            simp only [wipe_cons, wipe_nil]
            exact (b9.ne (by decide)).ne (by decide)
          have e21 : Has ((wipeM σ2 [21]).set 21 (some z)) 21 z := Has.self (by simp [L2])
          have hz2 : (ys ++ [z]).length ≤ sizeLine := by rw [sl]; simp; omega
          unfold turnE
          simp only [E_bl, bind_ok', tru_bl, if_true, E_bin, e9.ev, E_tup, Es_cons, Es_nil, e21.ev, newT1, binM, newT_ok' hz2, addR]
      have gg : Grow [] μ (μ ++ [.lst ((rngL lo n 1).map (addR (.tup ys)))]) := Grow.app _ _ _
      have hsum : (((rowsL lo n k).take j).flatMap fun x => (rngL lo n 1).map (addR x)) ++ (rngL lo n 1).map (addR (.tup ys)) = ((rowsL lo n k).take (j + 1)).flatMap fun x => (rngL lo n 1).map (addR x) := by
        rw [take_succ' hy, List.flatMap_append]
        simp
      have hlen : (((rowsL lo n k).take (j + 1)).flatMap fun x => (rngL lo n 1).map (addR x)).length ≤ sizeLine := by
        rw [flat_len (n := n) fun x _ => by simp, sl]
        have h1 : ((rowsL lo n k).take (j + 1)).length ≤ 64 := by rw [List.length_take]; omega
        calc _ ≤ 64 * 4 := Nat.mul_le_mul h1 hn4
          _ ≤ 16777216 := by decide
      have hadd : binM (μ ++ [.lst ((rngL lo n 1).map (addR (.tup ys)))]) .Add (.ref c) (.ref μ.length) = .ok (.ref (μ ++ [.lst ((rngL lo n 1).map (addR (.tup ys)))] : Mem).length) ((μ ++ [.lst ((rngL lo n 1).map (addR (.tup ys)))]) ++ [.lst (((rowsL lo n k).take (j + 1)).flatMap fun x => (rngL lo n 1).map (addR x))]) := by
        simp only [binM, gg.get hc (by simp), get_new, hsum]
        exact newL_ok' hlen
      simp only [B_cons, B_nil, S_asg, E_bin, b25.ev, hcomp, bind_ok', hadd, stm_ok', A_var, calm_ok', go_next, STo_ok, turnT_next]
      exact ⟨by rw [List.length_set, L2], b1.ne (by decide), b23.ne (by decide), b24.ne (by decide), b7.ne (by decide), ⟨_, Has.self (by rw [L2]; decide), get_new⟩, hg.trans (gg.trans (Grow.app _ _ _))⟩
    · obtain ⟨hL, h1, h23, h24, h7, ⟨c, h25, hc⟩, hg⟩ := hI
      simp only [goT_next, B_cons, B_nil, S_asg, h25.ev, stm_ok', A_var, calm_ok', go_next, STo_ok, turnT_next]
      rw [List.take_length] at hc
      exact ⟨by rw [List.length_set, hL], h1.ne (by decide), h23.ne (by decide), h24.ne (by decide), h7.ne (by decide), ⟨c, Has.self (by rw [hL]; decide), lst_get hc⟩, (hS.grow g0).grow hg⟩
  · obtain ⟨hL, h1, h23, h24, h7, ⟨b, h8, hl⟩, hS⟩ := hI
    rw [rngL_len] at hl
    exact t17 d hL h1 h23 h24 h7 h8 hw hh hb (by rw [hn]; exact hl) hS
theorem t15 (d : Nat) {i : Nat} {w lo hi : Int} {σ : Env} {ν : Mem} (hL : σ.length = 28) (h1 : Has σ 1 (.ref i)) (h23 : Has σ 23 (.int w)) (h24 : Has σ 24 (.int lo)) (h7 : Has σ 7 (.int hi)) (hw : 0 ≤ w ∧ w ≤ 3) (hh : lo ≤ hi + 1 ∧ hi + 1 ≤ lo + 4) (hb : -1000 ≤ lo ∧ lo ≤ 1000) (hS : St i ν) : Tail (d + 3) 15 σ ν := by
  show (evB (T (d + 3)) (d20.body.drop 15) σ ν).To _
  have hd : d20.body.drop 15 = .asg (.var 8) (.lst [(.tup [])]) :: d20.body.drop 16 := rfl
  rw [hd]
  simp only [B_cons, S_asg, E_lst, E_tup, Es_cons, Es_nil, bind_ok', newT0, newL1, stm_ok', A_var, calm_ok', go_next]
  exact t16 d (b := ν.length) (by rw [List.length_set, hL]) (h1.ne (by decide)) (h23.ne (by decide)) (h24.ne (by decide)) (h7.ne (by decide)) (Has.self (by rw [hL]; decide)) hw hh hb lstAt_new (hS.grow (Grow.app _ _ _))
theorem t13 (d : Nat) {i : Nat} {σ : Env} {ν : Mem} (hL : σ.length = 28) (h1 : Has σ 1 (.ref i)) (hS : St i ν) : Tail (d + 3) 13 σ ν := by
  show (evB (T (d + 3)) (d20.body.drop 13) σ ν).To _
  have hd : d20.body.drop 13 = .asg (.tup [(.var 23), (.var 24)]) (.tup [(.call 14 [(.var 1), (.int 4)]), (.bin .Sub (.call 14 [(.var 1), (.int 5)]) (.int 2))]) :: .asg (.var 7) (.bin .Add (.var 24) (.call 14 [(.var 1), (.int 4)])) :: d20.body.drop 15 := rfl
  rw [hd]
  obtain ⟨r, ν1, e1, w, rfl, w1, w2, s1, _⟩ := (take_to (d := d + 2) (σ := σ) h1 hS (show (0 : Int) < 4 ∧ (4 : Int) < 1073741824 by decide)).eq
  obtain ⟨r, ν2, e2, f, rfl, f1, f2, s2, _⟩ := (take_to (d := d + 2) (σ := σ) h1 s1 (show (0 : Int) < 5 ∧ (5 : Int) < 1073741824 by decide)).eq
  simp only [B_cons, S_asg, E_tup, Es_cons, Es_nil, E_bin, e1, e2, bind_ok', E_int, bin_sub, newT2, stm_ok', A_tup, Ag_cons, Ag_nil, A_var, List.length_cons, List.length_nil, if_true, calm_ok', go_next]
  have b1 : Has ((σ.set 23 (some (.int w))).set 24 (some (.int (f - 2)))) 1 (.ref i) := (h1.ne (by decide)).ne (by decide)
  have b24 : Has ((σ.set 23 (some (.int w))).set 24 (some (.int (f - 2)))) 24 (.int (f - 2)) := Has.self (by rw [List.length_set, hL]; decide)
  have b23 : Has ((σ.set 23 (some (.int w))).set 24 (some (.int (f - 2)))) 23 (.int w) := (Has.self (by rw [hL]; decide)).ne (by decide)
  obtain ⟨r, ν3, e3, l, rfl, l1, l2, s3, _⟩ := (take_to (d := d + 2) b1 s2 (show (0 : Int) < 4 ∧ (4 : Int) < 1073741824 by decide)).eq
  simp only [b24.ev, bind_ok', e3, bin_add, stm_ok', A_var, calm_ok', go_next]
  exact t15 d (by simp [hL]) (b1.ne (by decide)) (b23.ne (by decide)) (b24.ne (by decide)) (Has.self (by simp [hL])) (by omega) (by omega) (by omega) s3
end Mch.k00

/-! ## k00: the law, divisors, multiples -/
namespace Mch.k00
open PySem Mch
theorem t12 (d : Nat) {i : Nat} {n : Int} {σ : Env} {ν : Mem} (hL : σ.length = 28) (h1 : Has σ 1 (.ref i)) (h19 : Has σ 19 (.int n)) (hn : 1 ≤ n ∧ n ≤ 1000) (hS : St i ν) : Tail (d + 3) 12 σ ν := by
  show (evB (T (d + 3)) (d20.body.drop 12) σ ν).To _
  have hd : d20.body.drop 12 = .ite (.cmp .NotEq (.call 7 [(.var 19)]) (.comp (.var 26) (.var 26) (.rng [(.int 1), (.bin .Add (.var 19) (.int 1))]) (.cmp .Eq (.bin .Mod (.var 19) (.var 26)) (.int 0)) [26])) [.ret (.bl false)] [] :: d20.body.drop 13 := rfl
  rw [hd]
  refine go_to (fun σ' ν' => σ' = σ ∧ Grow [] ν ν') ?_ fun σ' ν' h => by
    obtain ⟨rfl, g⟩ := h
    exact t13 d hL h1 (hS.grow g)
  have e1 : n + 1 - 1 = n := by omega
  have hc : ∀ ν' : Mem, evE (T (d + 3)) (.comp (.var 26) (.var 26) (.rng [(.int 1), (.bin .Add (.var 19) (.int 1))]) (.cmp .Eq (.bin .Mod (.var 19) (.var 26)) (.int 0)) [26]) σ ν' = .ok (.ref ν'.length) (ν' ++ [.lst (divL n)]) := fun ν' => by
    unfold divL
    refine comp_pure (J := .rng 1 n.toNat 1) (xs := rngL 1 n.toNat 1) (μ1 := ν') (divF n) (by rw [Tn]; simp; omega) (by rw [sl]; simp; omega) ?_ (by simp only [items]) fun x hm => ⟨_, by simp only [T_var]; rfl, ?_⟩
    · have hr : rngM ν' [.int 1, .int (n + 1)] = .ok (.rng 1 n.toNat 1) ν' := by
        have : rngM ν' [.int 1, .int (n + 1)] = .ok (.rng 1 (n + 1 - 1).toNat 1) ν' := if_pos (by omega)
        rw [this, e1]
      simp only [E_rng, Es_cons, Es_nil, h19.ev, E_bin, E_int, bind_ok', bin_add, hr]
    · obtain ⟨k, rfl, hk, _⟩ := mem_rngL hm
      have a19 : Has ((wipeM σ [26]).set 26 (some (.int k))) 19 (.int n) := (h19.ne (by decide)).ne (by decide)
      have a26 : Has ((wipeM σ [26]).set 26 (some (.int k))) 26 (.int k) := Has.self (by simp [hL])
      have hk2 : k ≠ 0 := by omega
      unfold turnE
      by_cases h0 : n.fmod k = 0 <;> simp only [E_cmp, E_bin, a19.ev, a26.ev, E_int, bind_ok', bin_mod hk2, cmp_eqi, opt_some, tru_bl, h0, decide_true, decide_false, Bool.false_eq_true, if_true, if_false, divF]
  have hne : cmpM ((ν ++ [.lst (divL n)]) ++ [.lst (divL n)]) .NotEq (.ref ν.length) (.ref (ν ++ [.lst (divL n)] : Mem).length) = some false := by
    have : eqM ((ν ++ [.lst (divL n)]) ++ [.lst (divL n)]) (.ref ν.length) (.ref (ν ++ [.lst (divL n)] : Mem).length) = some true := by
      refine eq_refs ((Grow.app [] _ _).lst lstAt_new (by simp)) lstAt_new fun x hx => ?_
      obtain ⟨y, hy, hf⟩ := List.mem_filterMap.mp hx
      obtain ⟨k, rfl, _⟩ := mem_rngL hy
      simp only [divF] at hf
      split at hf
      · cases hf
        exact ⟨_, toD_int⟩
      · cases hf
    simp only [cmpM, this, Option.map_some, Bool.not_true]
  rw [S_ite]
  simp only [E_cmp, E_call, Es_cons, Es_nil, h19.ev, bind_ok', divisors (d + 2) hn, hc, hne, opt_some, stm_ok', tru_bl, Bool.false_eq_true, if_false, B_nil, STo_ok]
  exact ⟨σ, rfl, rfl, (Grow.app _ _ _).trans (Grow.app _ _ _)⟩
theorem lcmL_dvd {m : Nat} : ∀ {ks : List Nat} {a : Nat}, a ∣ m → (∀ k ∈ ks, k ∣ m) → ks.foldl Nat.lcm a ∣ m
  | [], a, h, _ => h
  | k :: ks, a, h, hk => lcmL_dvd (ks := ks) (Nat.lcm_dvd h (hk k (by simp))) fun z hz => hk z (by simp [hz])
theorem dvd_fold : ∀ {ks : List Nat} {a : Nat}, a ∣ ks.foldl Nat.lcm a ∧ ∀ k ∈ ks, k ∣ ks.foldl Nat.lcm a
  | [], a => ⟨Nat.dvd_refl a, fun k hk => by simp at hk⟩
  | x :: ks, a => by
    obtain ⟨h1, h2⟩ := dvd_fold (ks := ks) (a := Nat.lcm a x)
    refine ⟨Nat.dvd_trans (Nat.dvd_lcm_left a x) h1, fun k hk => ?_⟩
    rcases List.mem_cons.mp hk with rfl | hk
    · exact Nat.dvd_trans (Nat.dvd_lcm_right a k) h1
    · exact h2 k hk
def kI (k : Nat) : MV := .int k
def nmP (L : Int) : MV → Bool
  | .int k => !decide (L.fmod k = 0)
  | _ => false
def mdP (L : Int) : MV → Bool
  | .int k => decide (L.fmod k = 0)
  | _ => false
def adP (ks : List Nat) : MV → Bool
  | .int m => (ks.map kI).all (mdP m)
  | _ => false
theorem t11 (d : Nat) {i b : Nat} {n : Int} {ks : List Nat} {L : Nat} {σ : Env} {ν : Mem} (hL : σ.length = 28) (h1 : Has σ 1 (.ref i)) (h19 : Has σ 19 (.int n)) (h5 : Has σ 5 (.ref b)) (h6 : Has σ 6 (.int (L : Nat))) (hk : ∀ k ∈ ks, 1 ≤ k ∧ k ≤ 12) (hl : ks.length ≤ 3) (lp1 : 0 < L) (lp3 : L ≤ 1728) (hdv : ∀ k ∈ ks, k ∣ L) (hmin : ∀ m : Nat, (∀ k ∈ ks, k ∣ m) → L ∣ m) (hb : lstAt ν b = some (ks.map kI)) (hn : 1 ≤ n ∧ n ≤ 1000) (hS : St i ν) : Tail (d + 3) 11 σ ν := by
  show (evB (T (d + 3)) (d20.body.drop 11) σ ν).To _
  have hd : d20.body.drop 11 = .ite (.or (.bi .any [(.comp (.cmp .NotEq (.bin .Mod (.var 6) (.var 21)) (.int 0)) (.var 21) (.var 5) (.bl true) [21])]) (.bi .any [(.comp (.bi .all [(.comp (.cmp .Eq (.bin .Mod (.var 27) (.var 21)) (.int 0)) (.var 21) (.var 5) (.bl true) [21])]) (.var 27) (.rng [(.int 1), (.var 6)]) (.bl true) [27])])) [.ret (.bl false)] [] :: d20.body.drop 12 := rfl
  rw [hd]
  refine go_to (fun σ' ν' => σ' = σ ∧ Grow [] ν ν') ?_ fun σ' ν' h => by
    obtain ⟨rfl, g⟩ := h
    exact t12 d hL h1 h19 hn (hS.grow g)
  have memk : ∀ x, x ∈ ks.map kI → ∃ k : Nat, x = .int k ∧ 1 ≤ k ∧ k ∈ ks := fun x hx => by
    obtain ⟨k, h1, rfl⟩ := List.mem_map.mp hx
    exact ⟨k, rfl, (hk k h1).1, h1⟩
  have hc1 : evE (T (d + 3)) (.comp (.cmp .NotEq (.bin .Mod (.var 6) (.var 21)) (.int 0)) (.var 21) (.var 5) (.bl true) [21]) σ ν = .ok (.ref ν.length) (ν ++ [.lst ((ks.map kI).map fun x => .bl (nmP (L : Nat) x))]) := by
    rw [← fm_some]
    refine comp_pure _ (by rw [Tn]; simp; omega) (by rw [sl]; simp; omega) (h5.ev _ _) hb fun x hm => ⟨_, by simp only [T_var]; rfl, ?_⟩
    obtain ⟨k, rfl, hk1, _⟩ := memk x hm
    have a6 : Has ((wipeM σ [21]).set 21 (some (.int (k : Nat)))) 6 (.int (L : Nat)) := (h6.ne (by decide)).ne (by decide)
    have a21 : Has ((wipeM σ [21]).set 21 (some (.int (k : Nat)))) 21 (.int (k : Nat)) := Has.self (by simp [hL])
    have hk2 : ((k : Nat) : Int) ≠ 0 := by omega
    unfold turnE
    simp only [E_bl, bind_ok', tru_bl, if_true, E_cmp, E_bin, a6.ev, a21.ev, E_int, bin_mod hk2, cmp_nei, opt_some, nmP]
  have any1 : (ks.map kI).any (nmP (L : Nat)) = false := by
    rw [List.any_eq_false]
    intro x hx
    obtain ⟨k, rfl, hk1, hk2⟩ := memk x hx
    have hdv := hdv k hk2
    have : Int.fmod (L : Nat) (k : Nat) = 0 := by
      rw [← Int.ofNat_fmod]
      have : L % k = 0 := Nat.mod_eq_zero_of_dvd hdv
      rw [this]
      rfl
    simp [nmP, this]
  rw [S_ite]
  simp only [E_or, E_bi, Es_cons, Es_nil, hc1, bind_ok', any_new, any1, tru_bl, Bool.false_eq_true, if_false]
  have g1 : Grow [] ν (ν ++ [.lst ((ks.map kI).map fun x => .bl (nmP (L : Nat) x))]) := Grow.app _ _ _
  generalize (ν ++ [.lst ((ks.map kI).map fun x => .bl (nmP (L : Nat) x))]) = ν1 at g1 ⊢
  have hb1 := g1.lst hb (by simp)
  refine R.To.stm (R.To.bind (R.To.bind ?_))
  have hr0 : ∀ z : Int, 0 ≤ z → z ≤ 2000 → rngM ν1 [.int 1, .int z] = .ok (.rng 1 (z - 1).toNat 1) ν1 := fun z h1 h2 => if_pos (by omega)
  have hr := hr0 (L : Nat) (by omega) (by omega)
  refine comp_to (J := .rng 1 ((L : Nat) - 1 : Int).toNat 1) (μ1 := ν1) (xs := rngL 1 ((L : Nat) - 1 : Int).toNat 1) (fun x => some (MV.bl (adP ks x))) (by rw [Tn]; simp; omega) (by rw [sl]; simp; omega) ?_ rfl (fun x ν2 hx g2 => ⟨_, by simp only [T_var]; rfl, ?_⟩) fun ν2 g2 => ?_
  · rw [E_rng, Es_cons, E_int, bind_ok', Es_cons, h6.ev, bind_ok', Es_nil, bind_ok', bind_ok', bind_ok', hr]
  · obtain ⟨m, rfl, hm1, _⟩ := mem_rngL hx
    generalize hσ1 : (wipeM σ [27]).set 27 (some (.int m)) = σ1
    have L1 : σ1.length = 28 := by rw [← hσ1]; simp [hL]
    have a5 : Has σ1 5 (.ref b) := by rw [← hσ1]; exact (h5.ne (by decide)).ne (by decide)
    have a27 : Has σ1 27 (.int m) := by rw [← hσ1]; exact Has.self (by simp [hL])
    have hb2 := g2.lst hb1 (by simp)
    have hc2 : evE (T (d + 3)) (.comp (.cmp .Eq (.bin .Mod (.var 27) (.var 21)) (.int 0)) (.var 21) (.var 5) (.bl true) [21]) σ1 ν2 = .ok (.ref ν2.length) (ν2 ++ [.lst ((ks.map kI).map fun x => .bl (mdP m x))]) := by
      rw [← fm_some]
      refine comp_pure _ (by rw [Tn]; simp; omega) (by rw [sl]; simp; omega) (a5.ev _ _) hb2 fun x hm => ⟨_, by simp only [T_var]; rfl, ?_⟩
      obtain ⟨k, rfl, hk1, _⟩ := memk x hm
      have c27 : Has ((wipeM σ1 [21]).set 21 (some (.int (k : Nat)))) 27 (.int m) := (a27.ne (by decide)).ne (by decide)
      have c21 : Has ((wipeM σ1 [21]).set 21 (some (.int (k : Nat)))) 21 (.int (k : Nat)) := Has.self (by simp [L1])
      have hk2 : ((k : Nat) : Int) ≠ 0 := by omega
      unfold turnE
      simp only [E_bl, bind_ok', tru_bl, if_true, E_cmp, E_bin, c27.ev, c21.ev, E_int, bin_mod hk2, cmp_eqi, opt_some, mdP]
    unfold turnE
    simp only [E_bl, bind_ok', tru_bl, if_true, E_bi, Es_cons, Es_nil, hc2, all_new, To_ok]
    exact ⟨rfl, Grow.app _ _ _⟩
  · have hq : (rngL 1 ((L : Nat) - 1 : Int).toNat 1).filterMap (fun x => some (MV.bl (adP ks x))) = (rngL 1 ((L : Nat) - 1 : Int).toNat 1).map fun x => MV.bl (adP ks x) := fm_some _ _
    have any2 : (rngL 1 ((L : Nat) - 1 : Int).toNat 1).any (adP ks) = false := by
      rw [List.any_eq_false]
      intro x hx hp
      obtain ⟨m, rfl, hm1, hm2⟩ := mem_rngL hx
      have hp : (ks.map kI).all (mdP m) = true := hp
      rw [List.all_eq_true] at hp
      obtain ⟨m', rfl⟩ : ∃ m' : Nat, m = m' := ⟨m.toNat, by omega⟩
      have hdv : L ∣ m' := hmin m' fun k hk => by
        have := hp (kI k) (List.mem_map.mpr ⟨k, hk, rfl⟩)
        simp only [mdP, kI, decide_eq_true_eq] at this
        rw [← Int.ofNat_fmod] at this
        exact Nat.dvd_of_mod_eq_zero (by omega)
      have := Nat.le_of_dvd (by omega) hdv
      omega
    rw [hq]
    simp only [bind_ok', Es_nil, any_new, any2, To_ok, tru_bl, stm_ok', Bool.false_eq_true, if_false, B_nil, STo_ok]
    exact ⟨σ, rfl, rfl, (g1.trans g2).trans (Grow.app _ _ _)⟩
theorem to_ks : ∀ {xs : List MV}, (∀ x ∈ xs, ∃ k : Nat, x = .int k ∧ 1 ≤ k ∧ k ≤ 12) → ∃ ks : List Nat, xs = ks.map kI ∧ ∀ k ∈ ks, 1 ≤ k ∧ k ≤ 12
  | [], _ => ⟨[], rfl, fun k hk => by simp at hk⟩
  | x :: xs, h => by
    obtain ⟨k, rfl, h1⟩ := h x (by simp)
    obtain ⟨ks, rfl, h2⟩ := to_ks (xs := xs) fun y hy => h y (by simp [hy])
    refine ⟨k :: ks, rfl, fun z hz => ?_⟩
    rcases List.mem_cons.mp hz with rfl | hz
    · exact h1
    · exact h2 z hz
theorem t9 (d : Nat) {i : Nat} {n : Int} {σ : Env} {ν : Mem} (hL : σ.length = 28) (h1 : Has σ 1 (.ref i)) (h19 : Has σ 19 (.int n)) (hn : 1 ≤ n ∧ n ≤ 1000) (hS : St i ν) : Tail (d + 3) 9 σ ν := by
  show (evB (T (d + 3)) (d20.body.drop 9) σ ν).To _
  have hd : d20.body.drop 9 = .asg (.var 5) (.comp (.bin .Add (.int 1) (.call 14 [(.var 1), (.int 12)])) (.var 4) (.rng [(.call 14 [(.var 1), (.int 4)])]) (.bl true) [4]) :: .asg (.var 6) (.call 6 [(.var 5)]) :: d20.body.drop 11 := rfl
  rw [hd]
  simp only [B_cons, S_asg]
  refine RS.To.go (R.To.stm ?_)
  refine (draws_to (d := d + 2) (i := i) (P := fun x => ∃ k : Nat, x = .int k ∧ 1 ≤ k ∧ k ≤ 12) h1 (by omega) (by decide) hS (by decide) fun σ' ν' g1 g2 => ?_).imp fun r ν1 hr => ?_
  · simp only [E_bin, E_int, bind_ok']
    refine R.To.bind ((take_to (d := d + 2) g1 g2 (show (0 : Int) < 12 ∧ (12 : Int) < 1073741824 by decide)).imp fun r ν2 hr => ?_)
    obtain ⟨x, rfl, a1, a2, a3, a4⟩ := hr
    simp only [bin_add, To_ok]
    exact ⟨⟨(1 + x).toNat, by congr 1; omega, by omega, by omega⟩, a3, a4⟩
  · obtain ⟨b, xs, rfl, b1, b2, b3, b4, b5⟩ := hr
    obtain ⟨ks, rfl, hk⟩ := to_ks b3
    rw [List.length_map] at b4
    have h5 : Has (σ.set 5 (some (.ref b))) 5 (.ref b) := Has.self (by rw [hL]; decide)
    obtain ⟨lp1, lp2⟩ := lcm_pos hk ks.length
    rw [List.take_length] at lp1 lp2
    have lp3 : lcmL ks ≤ 1728 := Nat.le_trans lp2 (Nat.pow_le_pow_right (n := 12) (j := 3) (by omega) (by omega))
    have hm := least_multiple (d + 1) (ks := ks) hk (by omega) b1
    simp only [A_var, calm_ok', stm_ok', STo_ok, goT_next, E_call, Es_cons, Es_nil, h5.ev, bind_ok', hm, go_next]
    exact t11 d (by simp [hL]) ((h1.ne (by decide)).ne (by decide)) ((h19.ne (by decide)).ne (by decide)) (h5.ne (by decide)) (Has.self (by simp [hL])) hk (by omega) lp1 lp3 (dvd_fold (ks := ks) (a := 1)).2 (fun m hm => lcmL_dvd (Nat.one_dvd _) hm) b1 hn b5
end Mch.k00

/-! ## k00: the law, numbers -/
namespace Mch.k00
open PySem Mch
theorem t8 (d : Nat) {i : Nat} {a n : Int} {σ : Env} {ν : Mem} (hL : σ.length = 28) (h1 : Has σ 1 (.ref i)) (h16 : Has σ 16 (.int a)) (h19 : Has σ 19 (.int n)) (hn : 1 ≤ n ∧ n ≤ 1000) (hS : St i ν) : Tail (d + 3) 8 σ ν := by
  show (evB (T (d + 3)) (d20.body.drop 8) σ ν).To _
  have hd : d20.body.drop 8 = .ite (.not (.call 17 [(.call 10 [(.var 16)]), (.ite (.cmp .Gt (.var 16) (.int 0)) (.int 1) (.ite (.cmp .Lt (.var 16) (.int 0)) (.neg (.int 1)) (.int 0)))])) [.ret (.bl false)] [] :: d20.body.drop 9 := rfl
  rw [hd]
  refine go_to (fun σ' ν' => σ' = σ ∧ ν' = ν) ?_ fun σ' ν' h => by
    obtain ⟨rfl, rfl⟩ := h
    exact t9 d hL h1 h19 hn hS
  have hs : evE (T (d + 3)) (.ite (.cmp .Gt (.var 16) (.int 0)) (.int 1) (.ite (.cmp .Lt (.var 16) (.int 0)) (.neg (.int 1)) (.int 0))) σ ν = .ok (.int (sgn a)) ν := by
    simp only [E_ite, E_cmp, h16.ev, E_int, E_neg, bind_ok', cmp_gt, cmp_lt, opt_some, tru_bl, neg_int', sgn]
    by_cases h1 : 0 < a
    · simp [h1]
    · by_cases h2 : a < 0 <;> simp [h1, h2]
  rw [S_ite]
  simp only [E_not, E_call, Es_cons, Es_nil, h16.ev, bind_ok', sign_of (d + 2), hs, law_same_int (d + 1), decide_true, tru_bl, Bool.not_true, stm_ok', Bool.false_eq_true, if_false, B_nil, STo_ok]
  exact ⟨σ, rfl, rfl, by trivial⟩
theorem t7 (d : Nat) {i : Nat} {a b k n x y : Int} {σ : Env} {ν : Mem} (hL : σ.length = 28) (h1 : Has σ 1 (.ref i)) (h16 : Has σ 16 (.int a)) (h17 : Has σ 17 (.int b)) (h18 : Has σ 18 (.int k)) (h3 : Has σ 3 (.int (a ^ k.toNat))) (h20 : Has σ 20 (.int (Int.gcd a b : Nat))) (h21 : Has σ 21 (.int x)) (h22 : Has σ 22 (.int y)) (h19 : Has σ 19 (.int n))
    (ha : a.natAbs < 1000) (hb : b.natAbs < 1000) (hk : 0 ≤ k ∧ k < 1000) (hxy : a * x + b * y = (Int.gcd a b : Nat)) (hn : 1 ≤ n ∧ n ≤ 1000) (hS : St i ν) : Tail (d + 3) 7 σ ν := by
  show (evB (T (d + 3)) (d20.body.drop 7) σ ν).To _
  have hd : d20.body.drop 7 = .ite (.or (.not (.call 17 [(.call 4 [(.var 16), (.var 17)]), (.call 18 [(.var 16), (.var 17)])])) (.or (.cmp .NotEq (.var 20) (.call 18 [(.var 16), (.var 17)])) (.or (.cmp .NotEq (.bin .Add (.bin .Mult (.var 16) (.var 21)) (.bin .Mult (.var 17) (.var 22))) (.var 20)) (.not (.call 17 [(.call 9 [(.var 16), (.var 18)]), (.var 3)]))))) [.ret (.bl false)] [] :: d20.body.drop 8 := rfl
  rw [hd]
  refine go_to (fun σ' ν' => σ' = σ ∧ ν' = ν) ?_ fun σ' ν' h => by
    obtain ⟨rfl, rfl⟩ := h
    exact t8 d hL h1 h16 h19 hn hS
  have m1 : mulOk a x = true := mulOk_l (by omega)
  have m2 : mulOk b y = true := mulOk_l (by omega)
  rw [S_ite]
  simp only [E_or, E_not, E_cmp, E_bin, E_call, Es_cons, Es_nil, h16.ev, h17.ev, h18.ev, h3.ev, h20.ev, h21.ev, h22.ev, bind_ok', common (d + 2) (show b.natAbs < 99990 by omega), law_common (d + 2) (show b.natAbs < 99990 by omega), power (d + 2) ha hk, law_same_int (d + 1), bin_mul m1, bin_mul m2, bin_add, hxy, cmp_nei, opt_some, decide_true, tru_bl, Bool.not_true, stm_ok', Bool.false_eq_true, if_false, B_nil, STo_ok]
  exact ⟨σ, rfl, rfl, by trivial⟩
theorem t5 (d : Nat) {i : Nat} {a b k n : Int} {σ : Env} {ν : Mem} (hL : σ.length = 28) (h1 : Has σ 1 (.ref i)) (h16 : Has σ 16 (.int a)) (h17 : Has σ 17 (.int b)) (h18 : Has σ 18 (.int k)) (h3 : Has σ 3 (.int 1)) (h19 : Has σ 19 (.int n))
    (ha : a.natAbs < 1000) (hb : b.natAbs < 1000) (hk : 0 ≤ k ∧ k < 1000) (hn : 1 ≤ n ∧ n ≤ 1000) (hS : St i ν) : Tail (d + 3) 5 σ ν := by
  show (evB (T (d + 3)) (d20.body.drop 5) σ ν).To _
  have hd : d20.body.drop 5 = .for (.var 4) (.rng [(.var 18)]) [.asg (.var 3) (.bin .Mult (.var 3) (.var 16))] :: .asg (.tup [(.var 20), (.var 21), (.var 22)]) (.call 5 [(.var 16), (.var 17)]) :: d20.body.drop 7 := rfl
  rw [hd, B_cons]
  refine RS.To.go ?_
  have hr : rngM ν [.int k] = .ok (.rng 0 k.toNat 1) ν := if_pos (by omega)
  simp only [S_for, E_rng, Es_cons, Es_nil, h18.ev, bind_ok', hr, stm_ok', itM]
  refine forL_to (xs := rngL 0 k.toNat 1) (I := fun j σ μ => σ.length = 28 ∧ Has σ 1 (.ref i) ∧ Has σ 16 (.int a) ∧ Has σ 17 (.int b) ∧ Has σ 18 (.int k) ∧ Has σ 19 (.int n) ∧ Has σ 3 (.int (a ^ j)) ∧ μ = ν) (fun j σ μ hI => nth_items rfl j) (fun j z σ μ hz hI => ?_) (fun σ μ hI => ?_) _ 0 _ _ (Nat.zero_le _) (by rw [Tn]; simp; omega) ⟨hL, h1, h16, h17, h18, h19, by simpa using h3, rfl⟩
  · obtain ⟨hL, h1, h16, h17, h18, h19, h3, rfl⟩ := hI
    refine ⟨_, by simp only [T_var]; rfl, ?_⟩
    have a3 : Has (σ.set 4 (some z)) 3 (.int (a ^ j)) := h3.ne (by decide)
    have a16 : Has (σ.set 4 (some z)) 16 (.int a) := h16.ne (by decide)
    simp only [B_cons, B_nil, S_asg, E_bin, a3.ev, a16.ev, bind_ok', bin_mul (mulOk_r (show a.natAbs < 2 ^ 64 by omega)), stm_ok', A_var, calm_ok', go_next, STo_ok, turnT_next]
    exact ⟨by simp [hL], (h1.ne (by decide)).ne (by decide), a16.ne (by decide), (h17.ne (by decide)).ne (by decide), (h18.ne (by decide)).ne (by decide), (h19.ne (by decide)).ne (by decide), by rw [← Int.pow_succ]; exact Has.self (by simp [hL]), by trivial⟩
  · obtain ⟨hL, h1, h16, h17, h18, h19, h3, rfl⟩ := hI
    rw [rngL_len] at h3
    obtain ⟨r, ν1, e, x, y, rfl, rfl, hxy⟩ := (bezout (d + 2) (μ := μ) (show a.natAbs < 90000 by omega) (show b.natAbs < 90000 by omega)).eq
    simp only [goT_next, B_cons, S_asg, E_call, Es_cons, Es_nil, h16.ev, h17.ev, bind_ok', e, stm_ok', A_tup, Ag_cons, Ag_nil, A_var, List.length_cons, List.length_nil, if_true, calm_ok', go_next]
    refine t7 d (by simp [hL]) (((h1.ne (by decide)).ne (by decide)).ne (by decide)) (((h16.ne (by decide)).ne (by decide)).ne (by decide)) (((h17.ne (by decide)).ne (by decide)).ne (by decide)) (((h18.ne (by decide)).ne (by decide)).ne (by decide)) (((h3.ne (by decide)).ne (by decide)).ne (by decide)) (((Has.self (by simp [hL])).ne (by decide)).ne (by decide)) ((Has.self (by simp [hL])).ne (by decide)) (Has.self (by simp [hL])) (((h19.ne (by decide)).ne (by decide)).ne (by decide)) ha hb hk hxy hn hS
theorem t3 (d : Nat) {i : Nat} {σ : Env} {ν : Mem} (hL : σ.length = 28) (h1 : Has σ 1 (.ref i)) (hS : St i ν) : Tail (d + 3) 3 σ ν := by
  show (evB (T (d + 3)) (d20.body.drop 3) σ ν).To _
  have hd : d20.body.drop 3 = .asg (.tup [(.var 16), (.var 17), (.var 18), (.var 19)]) (.tup [(.bin .Sub (.call 14 [(.var 1), (.int 241)]) (.int 120)), (.bin .Sub (.call 14 [(.var 1), (.int 241)]) (.int 120)), (.call 14 [(.var 1), (.int 9)]), (.bin .Add (.int 1) (.call 14 [(.var 1), (.int 60)]))]) :: .asg (.var 3) (.int 1) :: d20.body.drop 5 := rfl
  rw [hd]
  obtain ⟨r, ν1, e1, a, rfl, a1, a2, s1, _⟩ := (take_to (d := d + 2) (σ := σ) h1 hS (show (0 : Int) < 241 ∧ (241 : Int) < 1073741824 by decide)).eq
  obtain ⟨r, ν2, e2, b, rfl, b1, b2, s2, _⟩ := (take_to (d := d + 2) (σ := σ) h1 s1 (show (0 : Int) < 241 ∧ (241 : Int) < 1073741824 by decide)).eq
  obtain ⟨r, ν3, e3, k, rfl, k1, k2, s3, _⟩ := (take_to (d := d + 2) (σ := σ) h1 s2 (show (0 : Int) < 9 ∧ (9 : Int) < 1073741824 by decide)).eq
  obtain ⟨r, ν4, e4, n, rfl, n1, n2, s4, _⟩ := (take_to (d := d + 2) (σ := σ) h1 s3 (show (0 : Int) < 60 ∧ (60 : Int) < 1073741824 by decide)).eq
  simp only [B_cons, S_asg, E_tup, Es_cons, Es_nil, E_bin, E_int, e1, e2, e3, e4, bind_ok', bin_sub, bin_add, newT4, stm_ok', A_tup, Ag_cons, Ag_nil, A_var, List.length_cons, List.length_nil, if_true, calm_ok', go_next]
  refine t5 d (a := a - 120) (b := b - 120) (k := k) (n := 1 + n) (by simp [hL]) (((((h1.ne (by decide)).ne (by decide)).ne (by decide)).ne (by decide)).ne (by decide)) ((((Has.self (by simp [hL])).ne (by decide)).ne (by decide)).ne (by decide)|>.ne (by decide)) ((((Has.self (by simp [hL])).ne (by decide)).ne (by decide)).ne (by decide)) (((Has.self (by simp [hL])).ne (by decide)).ne (by decide)) (Has.self (by simp [hL])) ((Has.self (by simp [hL])).ne (by decide)) (by omega) (by omega) (by omega) (by omega) s4
end Mch.k00

/-! ## k00: the law, values of all kinds -/
namespace Mch.k00
open PySem Mch
def valL (lo hi : Int) (b : Nat) : List MV := [.int 0, .int 3, .int (-2), .bl true, .non, .str "1", .tup [], .tup [.int 1, .int 2], .tup [.int 2, .bl true], .ref b, .tup [.int 1, .str "0"], .int lo, .int (hi + 1), .int 997, .int 1000, .int 1009]
theorem val_ok {lo hi : Int} {b : Nat} {μ : Mem} (hb : lstAt μ b = some [.int 1]) : ∀ v ∈ valL lo hi b, DatM μ v ∧ RowOk v := by
  intro v hv
  simp only [valL, List.mem_cons, List.not_mem_nil, or_false] at hv
  have triv : ∀ (xs : List MV), xs.length ≤ 100 → (∀ x ∈ xs, flatM x = true) → RowOk (.tup xs) := fun xs h1 h2 ys e => by
    cases e
    exact ⟨h1, h2⟩
  rcases hv with rfl | rfl | rfl | rfl | rfl | rfl | rfl | rfl | rfl | rfl | rfl | rfl | rfl | rfl | rfl | rfl
  all_goals first
    | exact ⟨⟨_, hb⟩, fun xs e => MV.noConfusion e⟩
    | exact ⟨trivial, triv _ (by simp) (by simp [flatM])⟩
    | exact ⟨trivial, fun xs e => MV.noConfusion e⟩
theorem isb {v : MV} {lo hi : Int} (h : isIntM v = false) : inI lo hi v = false := by
  cases v <;> first | rfl | (simp [isIntM] at h)
theorem isp {v : MV} (h : isIntM v = false) : primeM v = false := by
  unfold primeM
  rw [isb h]
  rfl
/-- what the law says of a value -/
theorem whole_to (d : Nat) {v : MV} {ν : Mem} {σ : Env} {j : Nat} (h2 : Has σ j v) (hv : DatM ν v) : evE (T (d + 1)) (.call 16 [.var j]) σ ν = .ok (.bl (isIntM v)) ν := by
  simp only [E_call, Es_cons, Es_nil, h2.ev, bind_ok']
  exact law_is_whole d hv
theorem good_to (d : Nat) {v : MV} {ν : Mem} {σ : Env} (hL : σ.length = 28) (h2 : Has σ 2 v) (hv : DatM ν v) (hr : RowOk v) : (evE (T (d + 1)) (.and (.isin (.var 2) [.tuple]) (.bi .all [(.comp (.call 16 [(.var 21)]) (.var 21) (.var 2) (.bl true) [21])])) σ ν).To fun r ν' => r = .bl (goodM v) ∧ Grow [] ν ν' := by
  by_cases ht : isTupM v = true
  · cases v <;> simp only [isTupM, Bool.false_eq_true] at ht
    rename_i xs
    obtain ⟨r1, r2⟩ := hr xs rfl
    have hc : evE (T (d + 1)) (.comp (.call 16 [(.var 21)]) (.var 21) (.var 2) (.bl true) [21]) σ ν = .ok (.ref ν.length) (ν ++ [.lst (xs.map fun x => .bl (isIntM x))]) := by
      rw [← fm_some]
      refine comp_pure (fun x => some (MV.bl (isIntM x))) (by rw [Tn]; omega) (by rw [sl]; omega) (h2.ev _ _) rfl fun x hm => ⟨_, by simp only [T_var]; rfl, ?_⟩
      have a21 : Has ((wipeM σ [21]).set 21 (some x)) 21 x := Has.self (by simp [hL])
      unfold turnE
      simp only [E_bl, bind_ok', tru_bl, if_true, whole_to d a21 (flat_dat (r2 x hm))]
    simp only [E_and, E_isin, h2.ev, bind_ok', TP, ty_tup hv, isTupM, opt_some, tru_bl, if_true, E_bi, Es_cons, Es_nil, hc, all_new, To_ok]
    exact ⟨rfl, Grow.app _ _ _⟩
  · have e : isTupM v = false := by simpa using ht
    have eg : goodM v = false := by cases v <;> first | rfl | (simp [isTupM] at e)
    simp only [E_and, E_isin, h2.ev, bind_ok', TP, ty_tup hv, e, opt_some, tru_bl, Bool.false_eq_true, if_false, To_ok, eg]
    exact ⟨by trivial, Grow.refl _ _⟩
theorem in_to (d : Nat) {v : MV} {lo hi : Int} {ν : Mem} {σ : Env} (h2 : Has σ 2 v) (h12 : Has σ 12 (.bl (isIntM v))) (h10 : Has σ 10 (.int lo)) (h11 : Has σ 11 (.int hi)) : evE (T d) (.ite (.var 12) (.cmp2 .LtE .LtE (.var 10) (.var 2) (.var 11)) (.bl false)) σ ν = .ok (.bl (inI lo hi v)) ν := by
  by_cases ht : isIntM v = true
  · cases v <;> simp only [isIntM, Bool.false_eq_true] at ht
    rename_i z
    simp only [E_ite, h12.ev, isIntM, bind_ok', tru_bl, if_true, E_cmp2, h10.ev, h2.ev, h11.ev, cmp_le, opt_some, inI]
    by_cases h1 : lo ≤ z <;> simp [h1]
  · have e : isIntM v = false := by simpa using ht
    rw [e] at h12
    simp only [E_ite, h12.ev, bind_ok', tru_bl, Bool.false_eq_true, if_false, E_bl, isb e]
theorem prime_to (d : Nat) {v : MV} {ν : Mem} {σ : Env} (hL : σ.length = 28) (h2 : Has σ 2 v) (h12 : Has σ 12 (.bl (isIntM v))) : (evE (T d) (.and (.var 12) (.and (.cmp2 .LtE .LtE (.int 2) (.var 2) (.int 1000)) (.bi .all [(.comp (.cmp .NotEq (.bin .Mod (.var 2) (.var 26)) (.int 0)) (.var 26) (.rng [(.int 2), (.var 2)]) (.bl true) [26])]))) σ ν).To fun r ν' => r = .bl (primeM v) ∧ Grow [] ν ν' := by
  by_cases ht : isIntM v = true
  · cases v <;> simp only [isIntM, Bool.false_eq_true] at ht
    rename_i z
    by_cases hz : 2 ≤ z ∧ z ≤ 1000
    · have hc : evE (T d) (.comp (.cmp .NotEq (.bin .Mod (.var 2) (.var 26)) (.int 0)) (.var 26) (.rng [(.int 2), (.var 2)]) (.bl true) [26]) σ ν = .ok (.ref ν.length) (ν ++ [.lst ((rngL 2 (z - 2).toNat 1).map fun x => .bl (ndP z x))]) := by
        rw [← fm_some]
        refine comp_pure (J := .rng 2 (z - 2).toNat 1) (xs := rngL 2 (z - 2).toNat 1) (μ1 := ν) (fun x => some (MV.bl (ndP z x))) (by rw [Tn]; simp; omega) (by rw [sl]; simp; omega) ?_ rfl fun x hm => ⟨_, by simp only [T_var]; rfl, ?_⟩
        · have hr : rngM ν [.int 2, .int z] = .ok (.rng 2 (z - 2).toNat 1) ν := if_pos (by omega)
          simp only [E_rng, Es_cons, Es_nil, E_int, h2.ev, bind_ok', hr]
        · obtain ⟨k, rfl, hk, _⟩ := mem_rngL hm
          have a2 : Has ((wipeM σ [26]).set 26 (some (.int k))) 2 (.int z) := (h2.ne (by decide)).ne (by decide)
          have a26 : Has ((wipeM σ [26]).set 26 (some (.int k))) 26 (.int k) := Has.self (by simp [hL])
          have hk2 : k ≠ 0 := by omega
          unfold turnE
          simp only [E_bl, bind_ok', tru_bl, if_true, E_cmp, E_bin, a2.ev, a26.ev, E_int, bin_mod hk2, cmp_nei, opt_some, ndP]
      have hp : primeM (.int z) = (rngL 2 (z - 2).toNat 1).all (ndP z) := by simp [primeM, inI, hz]
      simp only [E_and, h12.ev, isIntM, bind_ok', tru_bl, if_true, E_cmp2, E_int, h2.ev, cmp_le, opt_some, decide_eq_true hz.1, decide_eq_true hz.2, E_bi, Es_cons, Es_nil, hc, all_new, To_ok, hp]
      exact ⟨by trivial, Grow.app _ _ _⟩
    · have hp : primeM (.int z) = false := by
        have : inI 2 1000 (.int z) = false := by
          simp only [inI]
          by_cases h1 : 2 ≤ z
          · have : ¬ z ≤ 1000 := fun h => hz ⟨h1, h⟩
            simp [this]
          · simp [h1]
        unfold primeM
        rw [this]
        rfl
      by_cases h1 : 2 ≤ z
      · have h3 : ¬ z ≤ 1000 := fun h => hz ⟨h1, h⟩
        simp only [E_and, h12.ev, isIntM, bind_ok', tru_bl, if_true, E_cmp2, E_int, h2.ev, cmp_le, opt_some, decide_eq_true h1, decide_eq_false h3, Bool.false_eq_true, if_false, To_ok, hp]
        exact ⟨by trivial, Grow.refl _ _⟩
      · simp only [E_and, h12.ev, isIntM, bind_ok', tru_bl, if_true, E_cmp2, E_int, h2.ev, cmp_le, opt_some, decide_eq_false h1, Bool.false_eq_true, if_false, To_ok, hp]
        exact ⟨by trivial, Grow.refl _ _⟩
  · have e : isIntM v = false := by simpa using ht
    rw [e] at h12
    simp only [E_and, h12.ev, bind_ok', tru_bl, Bool.false_eq_true, if_false, To_ok, isp e]
    exact ⟨by trivial, Grow.refl _ _⟩
end Mch.k00

/-! ## k00: the law -/
namespace Mch.k00
open PySem Mch
theorem DatM.grow {v : MV} {μ ν : Mem} (h : DatM μ v) (g : Grow [] μ ν) : DatM ν v := by
  cases v <;> simp only [DatM] at h ⊢
  obtain ⟨xs, h⟩ := h
  exact ⟨xs, g.lst h (by simp)⟩
def loopB : List S := [.asg (.var 12) (.call 16 [(.var 2)]), .asg (.var 13) (.and (.isin (.var 2) [.tuple]) (.bi .all [(.comp (.call 16 [(.var 21)]) (.var 21) (.var 2) (.bl true) [21])])), .asg (.var 14) (.ite (.var 12) (.cmp2 .LtE .LtE (.var 10) (.var 2) (.var 11)) (.bl false)), .asg (.var 15) (.and (.var 12) (.and (.cmp2 .LtE .LtE (.int 2) (.var 2) (.int 1000)) (.bi .all [(.comp (.cmp .NotEq (.bin .Mod (.var 2) (.var 26)) (.int 0)) (.var 26) (.rng [(.int 2), (.var 2)]) (.bl true) [26])]))), .ite (.or (.not (.call 15 [(.call 0 [(.var 2)]), (.var 12)])) (.or (.not (.call 15 [(.call 1 [(.var 2), (.var 10), (.var 11)]), (.var 14)])) (.or (.not (.call 15 [(.call 3 [(.var 2)]), (.var 13)])) (.not (.call 15 [(.call 8 [(.var 2)]), (.var 15)]))))) [.ret (.bl false)] [], .ite (.cmp .Eq (.cmp .Eq (.idx (.call 19 [(.fn 2), (.tup [(.var 2), (.var 10), (.var 11)])]) (.int 0)) (.str "malformed")) (.var 14)) [.ret (.bl false)] []]
theorem mal (b : Bool) (μ : Mem) : cmpM μ .Eq (.str (if b then "told" else "malformed")) (.str "malformed") = some (!b) := by
  have h1 : PyData.strOk "told" = true := by decide +kernel
  have h2 : PyData.strOk "malformed" = true := by decide +kernel
  have e1 : toD μ 40 (.str "told") = some (.str "told") := if_pos h1
  have e2 : toD μ 40 (.str "malformed") = some (.str "malformed") := if_pos h2
  cases b
  · show eqM μ (.str "malformed") (.str "malformed") = _
    exact eq_self e2
  · show eqM μ (.str "told") (.str "malformed") = _
    simp only [eqM, e1, e2]
    decide +kernel
theorem loop_to (d : Nat) {v : MV} {lo hi : Int} {i : Nat} {ν : Mem} {σ : Env} {P : Fl → Mem → Prop} (hL : σ.length = 28) (h1 : Has σ 1 (.ref i)) (h2 : Has σ 2 v) (h10 : Has σ 10 (.int lo)) (h11 : Has σ 11 (.int hi)) (hv : DatM ν v) (hr : RowOk v) :
    (evB (T (d + 5)) loopB σ ν).To (turnT P fun σ' ν' => σ'.length = 28 ∧ Has σ' 1 (.ref i) ∧ Has σ' 10 (.int lo) ∧ Has σ' 11 (.int hi) ∧ Grow [] ν ν') := by
  unfold loopB
  simp only [B_cons, S_asg, whole_to (d + 4) h2 hv, stm_ok', A_var, calm_ok', go_next]
  generalize hσ1 : σ.set 12 (some (.bl (isIntM v))) = σ1
  have L1 : σ1.length = 28 := by rw [← hσ1]; simp [hL]
  have a1 : Has σ1 1 (.ref i) := by rw [← hσ1]; exact h1.ne (by decide)
  have a2 : Has σ1 2 v := by rw [← hσ1]; exact h2.ne (by decide)
  have a10 : Has σ1 10 (.int lo) := by rw [← hσ1]; exact h10.ne (by decide)
  have a11 : Has σ1 11 (.int hi) := by rw [← hσ1]; exact h11.ne (by decide)
  have a12 : Has σ1 12 (.bl (isIntM v)) := by rw [← hσ1]; exact Has.self (by rw [hL]; decide)
  obtain ⟨r, ν1, e1, rfl, g1⟩ := (good_to (d + 4) L1 a2 hv hr).eq
  rw [e1]
  simp only [stm_ok', calm_ok', go_next]
  generalize hσ2 : σ1.set 13 (some (.bl (goodM v))) = σ2
  have L2 : σ2.length = 28 := by rw [← hσ2]; simp [L1]
  have b1 : Has σ2 1 (.ref i) := by rw [← hσ2]; exact a1.ne (by decide)
  have b2 : Has σ2 2 v := by rw [← hσ2]; exact a2.ne (by decide)
  have b10 : Has σ2 10 (.int lo) := by rw [← hσ2]; exact a10.ne (by decide)
  have b11 : Has σ2 11 (.int hi) := by rw [← hσ2]; exact a11.ne (by decide)
  have b12 : Has σ2 12 (.bl (isIntM v)) := by rw [← hσ2]; exact a12.ne (by decide)
  have b13 : Has σ2 13 (.bl (goodM v)) := by rw [← hσ2]; exact Has.self (by rw [L1]; decide)
  rw [in_to (d + 5) b2 b12 b10 b11]
  simp only [stm_ok', calm_ok', go_next]
  generalize hσ3 : σ2.set 14 (some (.bl (inI lo hi v))) = σ3
  have L3 : σ3.length = 28 := by rw [← hσ3]; simp [L2]
  have c1 : Has σ3 1 (.ref i) := by rw [← hσ3]; exact b1.ne (by decide)
  have c2 : Has σ3 2 v := by rw [← hσ3]; exact b2.ne (by decide)
  have c10 : Has σ3 10 (.int lo) := by rw [← hσ3]; exact b10.ne (by decide)
  have c11 : Has σ3 11 (.int hi) := by rw [← hσ3]; exact b11.ne (by decide)
  have c12 : Has σ3 12 (.bl (isIntM v)) := by rw [← hσ3]; exact b12.ne (by decide)
  have c13 : Has σ3 13 (.bl (goodM v)) := by rw [← hσ3]; exact b13.ne (by decide)
  have c14 : Has σ3 14 (.bl (inI lo hi v)) := by rw [← hσ3]; exact Has.self (by rw [L2]; decide)
  obtain ⟨r, ν2, e2, rfl, g2⟩ := (prime_to (d + 5) (ν := ν1) L3 c2 c12).eq
  rw [e2]
  simp only [stm_ok', calm_ok', go_next]
  generalize hσ4 : σ3.set 15 (some (.bl (primeM v))) = σ4
  have L4 : σ4.length = 28 := by rw [← hσ4]; simp [L3]
  have d1 : Has σ4 1 (.ref i) := by rw [← hσ4]; exact c1.ne (by decide)
  have d2 : Has σ4 2 v := by rw [← hσ4]; exact c2.ne (by decide)
  have d10 : Has σ4 10 (.int lo) := by rw [← hσ4]; exact c10.ne (by decide)
  have d11 : Has σ4 11 (.int hi) := by rw [← hσ4]; exact c11.ne (by decide)
  have d12 : Has σ4 12 (.bl (isIntM v)) := by rw [← hσ4]; exact c12.ne (by decide)
  have d13 : Has σ4 13 (.bl (goodM v)) := by rw [← hσ4]; exact c13.ne (by decide)
  have d14 : Has σ4 14 (.bl (inI lo hi v)) := by rw [← hσ4]; exact c14.ne (by decide)
  have d15 : Has σ4 15 (.bl (primeM v)) := by rw [← hσ4]; exact Has.self (by rw [L3]; decide)
  have v2 := DatM.grow hv (g1.trans g2)
  obtain ⟨r, ν3, e3, rfl, g3⟩ := (is_whole_row (d + 3) v2 hr).eq
  have v3 := DatM.grow v2 g3
  obtain ⟨r, ν4, e4, rfl, g4⟩ := (is_prime (d + 2) v3).eq
  have v4 := DatM.grow v3 g4
  simp only [S_ite, E_or, E_not, E_call, Es_cons, Es_nil, d2.ev, d10.ev, d11.ev, d12.ev, d13.ev, d14.ev, d15.ev, bind_ok', is_integer (d + 4) v2, is_count (d + 3) v2, e3, e4, law_says (d + 4), decide_true, tru_bl, Bool.not_true, Bool.false_eq_true, if_false, stm_ok', B_nil, go_next]
  have hz : idxM ν4 (.tup [.str (if inI lo hi v then "told" else "malformed"), .non]) (.int 0) = some (.str (if inI lo hi v then "told" else "malformed")) := rfl
  have hb : decide ((!inI lo hi v) = inI lo hi v) = false := by cases inI lo hi v <;> rfl
  simp only [E_cmp, E_idx, E_call, Es_cons, Es_nil, E_fn, E_tup, d2.ev, d10.ev, d11.ev, d14.ev, bind_ok', newT3, law_result (d + 1) v4, E_int, hz, opt_some, E_str, mal, cmp_eqb, hb, stm_ok', tru_bl, Bool.false_eq_true, if_false, B_nil, go_next, STo_ok, turnT_next]
  exact ⟨L4, d1, d10, d11, ((g1.trans g2).trans g3).trans g4⟩
theorem t1 (d : Nat) {i : Nat} {σ : Env} {ν : Mem} (hL : σ.length = 28) (h1 : Has σ 1 (.ref i)) (hS : St i ν) : Tail (d + 5) 1 σ ν := by
  show (evB (T (d + 5)) (d20.body.drop 1) σ ν).To _
  have hd : d20.body.drop 1 = .asg (.tup [(.var 10), (.var 11)]) (.tup [(.bin .Sub (.call 14 [(.var 1), (.int 9)]) (.int 4)), (.bin .Sub (.call 14 [(.var 1), (.int 9)]) (.int 2))]) :: .for (.var 2) (.lst [(.int 0), (.int 3), (.neg (.int 2)), (.bl true), .non, (.str "1"), (.tup []), (.tup [(.int 1), (.int 2)]), (.tup [(.int 2), (.bl true)]), (.lst [(.int 1)]), (.tup [(.int 1), (.str "0")]), (.var 10), (.bin .Add (.var 11) (.int 1)), (.int 997), (.int 1000), (.int 1009)]) loopB :: d20.body.drop 3 := rfl
  rw [hd]
  obtain ⟨r, ν1, e1, a, rfl, a1, a2, s1, _⟩ := (take_to (d := d + 4) (σ := σ) h1 hS (show (0 : Int) < 9 ∧ (9 : Int) < 1073741824 by decide)).eq
  obtain ⟨r, ν2, e2, b, rfl, b1, b2, s2, _⟩ := (take_to (d := d + 4) (σ := σ) h1 s1 (show (0 : Int) < 9 ∧ (9 : Int) < 1073741824 by decide)).eq
  simp only [B_cons, S_asg, E_tup, Es_cons, Es_nil, E_bin, E_int, e1, e2, bind_ok', bin_sub, newT2, stm_ok', A_tup, Ag_cons, Ag_nil, A_var, List.length_cons, List.length_nil, if_true, calm_ok', go_next]
  generalize hσ1 : (σ.set 10 (some (.int (a - 4)))).set 11 (some (.int (b - 2))) = σ1
  have L1 : σ1.length = 28 := by rw [← hσ1]; simp [hL]
  have c1 : Has σ1 1 (.ref i) := by rw [← hσ1]; exact (h1.ne (by decide)).ne (by decide)
  have c10 : Has σ1 10 (.int (a - 4)) := by rw [← hσ1]; exact (Has.self (by rw [hL]; decide)).ne (by decide)
  have c11 : Has σ1 11 (.int (b - 2)) := by rw [← hσ1]; exact Has.self (by simp [hL])
  have hn2 : -(2 : Int) = -2 := rfl
  have hval : newL (valL (a - 4) (b - 2) ν2.length) (ν2 ++ [.lst [.int 1]]) = .ok (.ref (ν2 ++ [.lst [.int 1]] : Mem).length) ((ν2 ++ [.lst [.int 1]]) ++ [.lst (valL (a - 4) (b - 2) ν2.length)]) := newL_ok' (by rw [sl]; simp [valL])
  have hev : evE (T (d + 5)) (.lst [(.int 0), (.int 3), (.neg (.int 2)), (.bl true), .non, (.str "1"), (.tup []), (.tup [(.int 1), (.int 2)]), (.tup [(.int 2), (.bl true)]), (.lst [(.int 1)]), (.tup [(.int 1), (.str "0")]), (.var 10), (.bin .Add (.var 11) (.int 1)), (.int 997), (.int 1000), (.int 1009)]) σ1 ν2 = .ok (.ref (ν2 ++ [.lst [.int 1]] : Mem).length) ((ν2 ++ [.lst [.int 1]]) ++ [.lst (valL (a - 4) (b - 2) ν2.length)]) := by
    rw [← hval]
    simp only [E_lst, Es_cons, Es_nil, E_int, E_neg, E_bl, E_non, E_str, E_tup, E_bin, c10.ev, c11.ev, bind_ok', neg_int', bin_add, newT0, newT2, newL1, valL]
  simp only [S_for, hev, stm_ok']
  have g0 : Grow [] ν2 ((ν2 ++ [.lst [.int 1]]) ++ [.lst (valL (a - 4) (b - 2) ν2.length)]) := (Grow.app _ _ _).trans (Grow.app _ _ _)
  have hit : items ((ν2 ++ [.lst [.int 1]]) ++ [.lst (valL (a - 4) (b - 2) ν2.length)]) (.ref (ν2 ++ [.lst [.int 1]] : Mem).length) = some (valL (a - 4) (b - 2) ν2.length) := lstAt_new
  have hone : lstAt ((ν2 ++ [.lst [.int 1]]) ++ [.lst (valL (a - 4) (b - 2) ν2.length)]) ν2.length = some [.int 1] := (Grow.app [] _ _).lst lstAt_new (by simp)
  rw [itM_items hit]
  simp only [stm_ok']
  refine RS.To.go ?_
  refine forL_to (xs := valL (a - 4) (b - 2) ν2.length) (I := fun j σ μ => σ.length = 28 ∧ Has σ 1 (.ref i) ∧ Has σ 10 (.int (a - 4)) ∧ Has σ 11 (.int (b - 2)) ∧ Grow [] ((ν2 ++ [.lst [.int 1]]) ++ [.lst (valL (a - 4) (b - 2) ν2.length)]) μ) (fun j σ μ hI => nth_items (hI.2.2.2.2.items hit) j) (fun j v σ μ hv hI => ?_) (fun σ μ hI => ?_) _ 0 _ _ (Nat.zero_le _) (by rw [Tn]; simp [valL]) ⟨L1, c1, c10, c11, Grow.refl _ _⟩
  · obtain ⟨hL, h1, h10, h11, hg⟩ := hI
    refine ⟨_, by simp only [T_var]; rfl, ?_⟩
    obtain ⟨v1, v2⟩ := val_ok (hg.lst hone (by simp)) v (List.mem_of_getElem? hv)
    refine (loop_to d (P := fun _ _ => False) (σ := σ.set 2 (some v)) (i := i) (by simp [hL]) (h1.ne (by decide)) (Has.self (by rw [hL]; decide)) (h10.ne (by decide)) (h11.ne (by decide)) v1 v2).imp fun f μ' hf => ?_
    cases f with
    | next σ' => exact ⟨hf.1, hf.2.1, hf.2.2.1, hf.2.2.2.1, hg.trans hf.2.2.2.2⟩
    | cnt σ' => exact ⟨hf.1, hf.2.1, hf.2.2.1, hf.2.2.2.1, hg.trans hf.2.2.2.2⟩
    | brk σ' => exact False.elim hf
    | ret w => exact False.elim hf
  · obtain ⟨hL, h1, h10, h11, hg⟩ := hI
    exact t3 (d + 2) hL h1 ((s2.grow g0).grow hg)
theorem law_run (ns : List Int) (hl : ns.length ≤ 63) : ∃ μ, (tabD prog 100000 40).call 20 [.ref 0] [.frz (ns.map MV.int)] = .ok (.bl true) μ := by
  have h : ((T 40).call 20 [.ref 0] [.frz (ns.map MV.int)]).To fun r _ => r = .bl true := by
    show (runD (T 39) d20 [.ref 0] [.frz (ns.map MV.int)]).To _
    refine runD_to rfl rfl ?_
    have hd : d20.body = .asg (.var 1) (.call 13 [(.var 0)]) :: d20.body.drop 1 := rfl
    rw [hd]
    obtain ⟨r, ν, e, i, rfl, hS, hg⟩ := (law_state 38 (a := 0) (μ := [.frz (ns.map MV.int)]) hl rfl).eq
    have e0 : evE (T 39) (.call 13 [(.var 0)]) (slots d20 [.ref 0]) [.frz (ns.map MV.int)] = .ok (.ref i) ν := by
      simp only [E_call, Es_cons, Es_nil, E_var (σ := slots d20 [.ref 0]) (i := 0) (v := .ref 0) rfl, bind_ok']
      exact e
    simp only [B_cons, S_asg, e0, stm_ok', A_var, calm_ok', go_next]
    exact t1 34 rfl (Has.self (by decide)) hS
  obtain ⟨r, μ, e, rfl⟩ := h.eq
  exact ⟨μ, e⟩
end Mch.k00

open PySem PySem.W PySem.Calls PyProof.Rows
set_option maxHeartbeats 0 in
theorem PySem.Challenge.cw_tetraroads_k00_whole_integers_of_gluings_holds : PySem.Challenge.rw_tetraroads_k00_whole_integers_of_gluings.Holds := by
  exact Mch.k00.law_if fun ns h _ => Mch.k00.law_run ns h
