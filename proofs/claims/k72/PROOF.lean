import PyProof.Rows.All
import Wide.All
import OpenK.AllK
import Wide.FinOn
import HandS.Base
import HandS.Call
import HandS.List
import HandS.Comp
import HandS.Ends
import HandS.Dict
import HandS.Iter
import HandS.Text
import HandS.Words
import HandS.Exc
import HandS.TryOnly
import HandS.ExcOwn
import HandS.WordsExc
import HandS.Deep
import HandS.Style
import HandS.TupAny
import HandS.StrMore
import HandS.Flow
import HandS.Defaults
import HandS.CallLocal
import HandS.IsInst
import HandS.Property
import HandS.MakeKwOnly
import HandS.ExcInit
import HandS.HeadHook1
import HandS.HeadWalk
import HandS.More
import HandS.RaiseMore
import HandS.Walk
import HandS.Zip
import HandS.Small
import HandS.ExcField
import KE.KExcIs
import HandS.HeadHook2
import HandS.HeadEnd
import HandS.Codes
import HandS.HeadHook3
import KE.KStateDown
import HandS.Head0
import HandS.Head1
import HandS.Head2
import PySem.Challenge.RW_turnpike_k72_shapes
set_option Elab.async false
set_option linter.all false
set_option autoImplicit false
set_option maxRecDepth 100000
set_option maxHeartbeats 0
/-! Mp0: a small language (MP) for the rows' Python: values, cells, a heap, expressions, statements, and what they mean.
    Pure: no library. Names of fields, methods, functions, classes are numbers. -/
namespace MP

/-- a value: a tuple and a list that nobody changes are data; a thing that changes is a ref to a cell; arr: a list that is read alone; fn: a def -/
inductive Val where
  | non | bl (b : Bool) | int (i : Int) | str (s : List Nat) | tup (xs : List Val) | lst (xs : List Val) | arr (xs : List Val) | ref (r : Nat) | fn (k : Nat)
  deriving Inhabited

/-- an exception: its class, its fields -/
structure Exc where
  c : Nat
  f : List (Nat × Val)

/-- what stands in the heap: a list, a dict (locked while a loop walks it), an instance -/
inductive Cell where
  | lst (xs : List Val)
  | dic (kvs : List (Val × Val)) (locked : Bool)
  | ins (c : Nat) (fs : List (Nat × Val))

structure Heap where
  n : Nat
  c : Nat → Option Cell

namespace Heap
def push (h : Heap) (x : Cell) : Heap := ⟨h.n + 1, fun r => if r = h.n then some x else h.c r⟩
def set (h : Heap) (q : Nat) (x : Cell) : Heap := ⟨h.n, fun r => if r = q then some x else h.c r⟩
def empty : Heap := ⟨0, fun _ => none⟩
end Heap

/-- the end of an expression -/
inductive Out (α : Type) where
  | ok (a : α) (h : Heap)
  | exc (x : Exc) (h : Heap)
  | bad

namespace Out
variable {α β : Type}
def bind (o : Out α) (f : α → Heap → Out β) : Out β := match o with
  | ok a h => f a h
  | exc x h => exc x h
  | bad => bad
def ofOpt (o : Option α) (h : Heap) : Out α := match o with
  | some a => ok a h
  | none => bad
@[simp] theorem bind_ok (a : α) (h : Heap) (f : α → Heap → Out β) : bind (ok a h) f = f a h := rfl
@[simp] theorem bind_exc (x : Exc) (h : Heap) (f : α → Heap → Out β) : bind (exc x h) f = exc x h := rfl
@[simp] theorem bind_bad (f : α → Heap → Out β) : bind bad f = bad := rfl
@[simp] theorem ofOpt_some (a : α) (h : Heap) : ofOpt (some a) h = ok a h := rfl
@[simp] theorem ofOpt_none (h : Heap) : ofOpt (none : Option α) h = bad := rfl
end Out

/-- the names' values, by slots -/
abbrev Env := List (Option Val)

/-- the end of a statement -/
inductive SO where
  | nx (ρ : Env) (h : Heap)
  | rt (v : Val) (h : Heap)
  | bk (ρ : Env) (h : Heap)
  | ct (ρ : Env) (h : Heap)
  | exc (x : Exc) (ρ : Env) (h : Heap)
  | bad

namespace SO
def next (o : SO) (f : Env → Heap → SO) : SO := match o with
  | nx ρ h => f ρ h
  | o => o
@[simp] theorem next_nx (ρ : Env) (h : Heap) (f : Env → Heap → SO) : next (nx ρ h) f = f ρ h := rfl
@[simp] theorem next_rt (v : Val) (h : Heap) (f : Env → Heap → SO) : next (rt v h) f = rt v h := rfl
@[simp] theorem next_bk (ρ : Env) (h : Heap) (f : Env → Heap → SO) : next (bk ρ h) f = bk ρ h := rfl
@[simp] theorem next_ct (ρ : Env) (h : Heap) (f : Env → Heap → SO) : next (ct ρ h) f = ct ρ h := rfl
@[simp] theorem next_exc (x : Exc) (ρ : Env) (h : Heap) (f : Env → Heap → SO) : next (exc x ρ h) f = exc x ρ h := rfl
@[simp] theorem next_bad (f : Env → Heap → SO) : next bad f = bad := rfl
end SO

/-- behind an expression in a statement -/
def Out.stm {α : Type} (o : Out α) (ρ : Env) (f : α → Heap → SO) : SO := match o with
  | .ok a h => f a h
  | .exc x h => .exc x ρ h
  | .bad => .bad
@[simp] theorem Out.stm_ok {α : Type} (a : α) (h : Heap) (ρ : Env) (f : α → Heap → SO) : Out.stm (.ok a h) ρ f = f a h := rfl
@[simp] theorem Out.stm_exc {α : Type} (x : Exc) (h : Heap) (ρ : Env) (f : α → Heap → SO) : Out.stm (.exc x h) ρ f = .exc x ρ h := rfl
@[simp] theorem Out.stm_bad {α : Type} (ρ : Env) (f : α → Heap → SO) : Out.stm (.bad : Out α) ρ f = .bad := rfl

/-! ### the syntax -/
/-- operators and comparisons of two values -/
inductive Op where
  | add | sub | mul | fdiv | mod | pow | eq | ne | lt | le | gt | ge | is | isnot | isin | notin
  deriving DecidableEq
/-- built-in functions and types that are called -/
inductive Bf where
  | len | max | min | sum | all | any | int | str | list | tuple | sorted
  deriving DecidableEq
/-- built-in methods -/
inductive Bm where
  | append | extend | pop | get | join | removeprefix | startswith | find
  deriving DecidableEq
/-- what isinstance asks -/
inductive Ty where
  | int | bool | str | tuple | cls (c : Nat)
  deriving DecidableEq
/-- a target: a name's slot, or names -/
inductive Tg where
  | name (i : Nat)
  | tup (is : List Nat)
  deriving DecidableEq
/-- how an argument comes: the i-th of the evaluated ones, or a default -/
inductive Bd where
  | pos (i : Nat)
  | dfl (v : Val)

inductive E where
  | var (i : Nat)
  | cst (v : Val)
  | tup (es : List E)
  /-- a list display; new: as a cell -/
  | lst (new : Bool) (es : List E)
  | dic
  /-- a dict display: key, value, key, value .. -/
  | dicI (es : List E)
  /-- x in D, D[x]: D a written dict of texts, its values tuples of defs -/
  | gin (rows : List (List Nat × List Nat)) (a : E)
  | gget (rows : List (List Nat × List Nat)) (a : E)
  /-- len(set(a)), a whole numbers -/
  | lenset (a : E)
  | op (o : Op) (a b : E)
  | chain (o o' : Op) (a b c : E)
  | neg (a : E)
  | not (a : E)
  | and (a b : E)
  | or (a b : E)
  | ite (c a b : E)
  | attr (a : E) (f : Nat)
  | sub (a i : E)
  /-- a[lo:hi]; a part that lacks: [] -/
  | slice (new : Bool) (a : E) (lo hi : List E)
  | call (k : Nat) (es : List E)
  | callK (k : Nat) (es : List E) (g : List Bd)
  | make (c : Nat) (es : List E)
  | makeK (c : Nat) (es : List E) (g : List Bd)
  /-- a call of a name that holds a def -/
  | callV (i : Nat) (es : List E)
  | meth (a : E) (m : Nat) (es : List E)
  | bm (a : E) (m : Bm) (es : List E)
  | bf (f : Bf) (new : Bool) (es : List E)
  | dict (a : E)
  | isi (a : E) (t : Ty)
  /-- [elt for tg in it if c]; vs: the slots of the comprehension's own names; w: what is walked, its kind, then its expressions -/
  | comp (new : Bool) (elt : E) (tg : Tg) (w : Nat) (it : List E) (ifs : List E) (vs : List Nat)
  /-- never reached -/
  | stop
  deriving Inhabited

/-- what is asked of a caught exception -/
inductive HX where
  | isE (c : Nat)
  | lineNe (i : Nat)
  | not (a : HX)
  | or (a b : HX)
/-- what an except clause returns -/
inductive HR where
  | val (v : Val)
  | line

inductive S where
  | asg (tg : Tg) (e : E)
  | setA (o : E) (f : Nat) (e : E)
  | setI (o i e : E)
  | augN (i : Nat) (o : Op) (e : E)
  | augA (a : E) (f : Nat) (o : Op) (e : E)
  | expr (e : E)
  | ret (e : E)
  | retN
  | ife (c : E) (a b : List S)
  | loop (tg : Tg) (w : Nat) (it : List E) (body : List S)
  | whl (c : E) (body : List S)
  | raise (c : Nat) (es : List E)
  | try_ (body : List S) (c : Nat) (suite : List S)
  /-- try .. except C as e: tests of e, each with what is returned; then what is returned -/
  | tryAs (body : List S) (c i : Nat) (ts : List (HX × HR)) (last : HR)
  | del (a i : E)
  | pass
  | brk
  | cont
  /-- never reached -/
  | stop

/-! ### data at any depth -/
inductive D where
  | non | bl (b : Bool) | int (i : Int) | str (s : List Nat) | lst (xs : List D) | tup (xs : List D)
  deriving Inhabited

mutual
def D.eqv : D → D → Bool
  | .non, .non => true
  | .bl a, .bl b => a == b
  | .bl a, .int j => (if a then 1 else 0) == j
  | .int i, .bl b => i == (if b then 1 else 0)
  | .int i, .int j => i == j
  | .str x, .str y => x == y
  | .lst xs, .lst ys => D.eqvs xs ys
  | .tup xs, .tup ys => D.eqvs xs ys
  | _, _ => false
def D.eqvs : List D → List D → Bool
  | [], [] => true
  | x :: xs, y :: ys => D.eqv x y && D.eqvs xs ys
  | _, _ => false
end

def mapO {α β : Type} (f : α → Option β) : List α → Option (List β)
  | [] => some []
  | a :: as => match f a, mapO f as with
    | some b, some bs => some (b :: bs)
    | _, _ => none

/-- a value as data, at most n - 1 deep -/
def toD (h : Heap) : Nat → Val → Option D
  | 0, _ => none
  | _ + 1, .non => some .non
  | _ + 1, .bl b => some (.bl b)
  | _ + 1, .int i => some (.int i)
  | _ + 1, .str s => if s.all (fun c => decide (c < 1114112)) then some (.str s) else none
  | n + 1, .tup xs => (mapO (toD h n) xs).map .tup
  | n + 1, .lst xs => (mapO (toD h n) xs).map .lst
  | n + 1, .ref r => match h.c r with
    | some (.lst xs) => (mapO (toD h n) xs).map .lst
    | _ => none
  | _ + 1, _ => none

/-! ### values -/
/-- the items of a sequence -/
def seqOf (h : Heap) : Val → Option (List Val)
  | .tup xs => some xs
  | .lst xs => some xs
  | .arr xs => some xs
  | .ref r => match h.c r with
    | some (.lst xs) => some xs
    | _ => none
  | _ => none
def truthy (h : Heap) : Val → Option Bool
  | .non => some false
  | .bl b => some b
  | .int i => some (i != 0)
  | .tup xs => some (!xs.isEmpty)
  | .lst xs => some (!xs.isEmpty)
  | .ref r => match h.c r with
    | some (.lst xs) => some (!xs.isEmpty)
    | _ => none
  | _ => none
/-- a place from the front or the end -/
def place (n : Nat) (i : Int) : Option Nat := if 0 ≤ i then (if i < n then some i.toNat else none) else if -(n : Int) ≤ i then some (i + n).toNat else none
def at_ {α : Type} (xs : List α) (i : Int) : Option α := (place xs.length i).bind fun j => xs[j]?
/-- a dict's key: an int or a text -/
def keyEq : Val → Val → Bool
  | .int i, .int j => i == j
  | .str x, .str y => x == y
  | _, _ => false
def isKey : Val → Bool
  | .int _ => true
  | .str _ => true
  | _ => false
def dGet (kvs : List (Val × Val)) (k : Val) : Option Val := match kvs with
  | [] => none
  | p :: r => if keyEq p.1 k then some p.2 else dGet r k
def dHas (kvs : List (Val × Val)) (k : Val) : Bool := kvs.any fun p => keyEq p.1 k
def dPut (kvs : List (Val × Val)) (k v : Val) : List (Val × Val) := if dHas kvs k = true then kvs.map (fun p => if keyEq p.1 k = true then (p.1, v) else p) else kvs ++ [(k, v)]
/-- a display's pairs -/
def pairsV : List Val → Option (List (Val × Val))
  | [] => some []
  | k :: v :: r => match pairsV r with
    | some kvs => if isKey k = true then some ((k, v) :: kvs) else none
    | none => none
  | [_] => none
def dPuts (acc : List (Val × Val)) : List (Val × Val) → List (Val × Val)
  | [] => acc
  | p :: r => dPuts (dPut acc p.1 p.2) r
def dDrop (kvs : List (Val × Val)) (k : Val) : List (Val × Val) := kvs.filter fun p => !keyEq p.1 k

/-- the digits of a number, the first one ahead -/
def digits (n : Nat) : List Nat := (Nat.toDigits 10 n).map Char.toNat
def intText (i : Int) : List Nat := if i < 0 then 45 :: digits i.natAbs else digits i.natAbs
def digVal (s : List Nat) : Nat := s.foldl (fun a c => a * 10 + (c - 48)) 0
def allDig (s : List Nat) : Bool := !s.isEmpty && s.all fun c => decide (48 ≤ c) && decide (c ≤ 57)

/-- the size of a number that may be multiplied -/
def small64 (i : Int) : Prop := -(2 ^ 64) < i ∧ i < 2 ^ 64
instance (i : Int) : Decidable (small64 i) := inferInstanceAs (Decidable (_ ∧ _))
def bound30 : Nat := 1073741824
def line : Nat := 16777216

def eqVal (h : Heap) (a b : Val) : Option Bool := match toD h 64 a, toD h 64 b with
  | some x, some y => some (x.eqv y)
  | _, _ => none
/-- x in y -/
def inVal (h : Heap) (x y : Val) : Option Bool := match y with
  | .str s => match x with
    | .str [c] => some (s.contains c)
    | _ => none
  | .ref r => match h.c r with
    | some (.dic kvs _) => if isKey x then some (dGet kvs x).isSome else none
    | some (.lst ys) => match toD h 64 x, mapO (toD h 63) ys with
      | some d, some ds => some (ds.any fun z => z.eqv d)
      | _, _ => none
    | _ => none
  | .tup ys => match toD h 64 x, mapO (toD h 63) ys with
    | some d, some ds => some (ds.any fun z => z.eqv d)
    | _, _ => none
  | .lst ys => match toD h 64 x, mapO (toD h 63) ys with
    | some d, some ds => some (ds.any fun z => z.eqv d)
    | _, _ => none
  | _ => none
/-- x is y: of None, of two truth values -/
def isVal (x y : Val) : Option Bool := match y with
  | .non => match x with
    | .non => some true
    | _ => some false
  | .bl b => match x with
    | .bl a => some (a == b)
    | .non => some false
    | .int _ => some false
    | .str _ => some false
    | _ => none
  | _ => none

def opV (h : Heap) (o : Op) (x y : Val) : Option Val := match o with
  | .eq => (eqVal h x y).map .bl
  | .ne => (eqVal h x y).map fun b => .bl (!b)
  | .isin => (inVal h x y).map .bl
  | .notin => (inVal h x y).map fun b => .bl (!b)
  | .is => (isVal x y).map .bl
  | .isnot => (isVal x y).map fun b => .bl (!b)
  | .add => match x, y with
    | .int i, .int j => some (.int (i + j))
    | .str s, .str t => if s.length + t.length ≤ line then some (.str (s ++ t)) else none
    | .tup xs, .tup ys => if xs.length + ys.length ≤ line then some (.tup (xs ++ ys)) else none
    | .lst xs, .lst ys => if xs.length + ys.length ≤ line then some (.lst (xs ++ ys)) else none
    | .lst xs, .ref r => match h.c r with
      | some (.lst ys) => if xs.length + ys.length ≤ line then some (.lst (xs ++ ys)) else none
      | _ => none
    | .ref r, .lst ys => match h.c r with
      | some (.lst xs) => if xs.length + ys.length ≤ line then some (.lst (xs ++ ys)) else none
      | _ => none
    | _, _ => none
  | .sub => match x, y with
    | .int i, .int j => some (.int (i - j))
    | _, _ => none
  | .mul => match x, y with
    | .int i, .int j => if small64 i ∨ small64 j then some (.int (i * j)) else none
    | .str [c], .int j => if 0 ≤ j ∧ j ≤ 1000 then some (.str (List.replicate j.toNat c)) else none
    | _, _ => none
  | .fdiv => match x, y with
    | .int i, .int j => if j ≠ 0 ∧ j.natAbs < bound30 then some (.int (i.fdiv j)) else none
    | _, _ => none
  | .mod => match x, y with
    | .int i, .int j => if j ≠ 0 then some (.int (i.fmod j)) else none
    | _, _ => none
  | .pow => match x, y with
    | .int i, .int j => if 0 ≤ j ∧ j ≤ 1000000 ∧ i.natAbs < 2 ^ 64 then some (.int (i ^ j.toNat)) else none
    | _, _ => none
  | .lt => match x, y with
    | .int i, .int j => some (.bl (decide (i < j)))
    | _, _ => none
  | .le => match x, y with
    | .int i, .int j => some (.bl (decide (i ≤ j)))
    | _, _ => none
  | .gt => match x, y with
    | .int i, .int j => some (.bl (decide (j < i)))
    | _, _ => none
  | .ge => match x, y with
    | .int i, .int j => some (.bl (decide (j ≤ i)))
    | _, _ => none

/-- x op= y -/
def augV (o : Op) (x y : Val) : Option Val := match o with
  | .add => match x, y with
    | .int i, .int j => some (.int (i + j))
    | _, _ => none
  | .sub => match x, y with
    | .int i, .int j => some (.int (i - j))
    | _, _ => none
  | _ => none
/-- x[y] -/
def subV (h : Heap) (x y : Val) : Option Val := match x with
  | .str s => match y with
    | .int i => if s.length ≤ line then (at_ s i).map fun c => .str [c] else none
    | _ => none
  | .ref r => match h.c r with
    | some (.dic kvs _) => if isKey y then dGet kvs y else none
    | some (.lst xs) => match y with
      | .int i => at_ xs i
      | _ => none
    | _ => none
  | _ => match y with
    | .int i => (seqOf h x).bind fun xs => at_ xs i
    | _ => none

/-- a slice's ends -/
def clip (n d : Nat) : Option Int → Nat
  | none => d
  | some i => if i < 0 then (i + n).toNat else min i.toNat n
def cut {α : Type} (xs : List α) (lo hi : Option Int) : List α := (xs.drop (clip xs.length 0 lo)).take (clip xs.length xs.length hi - clip xs.length 0 lo)
def sliceV (h : Heap) (x : Val) (lo hi : Option Int) : Option Val := match x with
  | .str s => if s.length ≤ line then some (.str (cut s lo hi)) else none
  | .tup xs => some (.tup (cut xs lo hi))
  | _ => (seqOf h x).map fun xs => .lst (cut xs lo hi)

def intsV : List Val → Option (List Int)
  | [] => some []
  | .int i :: r => (intsV r).map (i :: ·)
  | _ :: _ => none
def boolsV : List Val → Option (List Bool)
  | [] => some []
  | .bl b :: r => (boolsV r).map (b :: ·)
  | _ :: _ => none
def textsV : List Val → Option (List (List Nat))
  | [] => some []
  | .str s :: r => (textsV r).map (s :: ·)
  | _ :: _ => none
def maxI : List Int → Option Int
  | [] => none
  | [i] => some i
  | i :: r => (maxI r).map fun m => max i m
def minI : List Int → Option Int
  | [] => none
  | [i] => some i
  | i :: r => (minI r).map fun m => min i m
def joinT (sep : List Nat) : List (List Nat) → List Nat
  | [] => []
  | [x] => x
  | x :: r => x ++ sep ++ joinT sep r
def sumLen : List (List Nat) → Nat
  | [] => 0
  | x :: r => x.length + sumLen r

/-- a built-in's call: a value; list(..), sorted(..): a list's items -/
def bfV (h : Heap) (f : Bf) (vs : List Val) : Option Val := match f, vs with
  | .len, [.str s] => if s.length ≤ line then some (.int s.length) else none
  | .len, [.ref r] => match h.c r with
    | some (.lst xs) => some (.int xs.length)
    | some (.dic kvs _) => some (.int kvs.length)
    | _ => none
  | .len, [v] => (seqOf h v).map fun xs => .int xs.length
  | .max, [.int i, .int j] => some (.int (if j > i then j else i))
  | .min, [.int i, .int j] => some (.int (if j < i then j else i))
  | .max, [.lst xs] => ((intsV xs).bind maxI).map .int
  | .min, [.lst xs] => ((intsV xs).bind minI).map .int
  | .sum, [.lst xs] => (intsV xs).map fun is => .int is.sum
  | .all, [.lst xs] => (boolsV xs).map fun bs => .bl (bs.all id)
  | .any, [.lst xs] => (boolsV xs).map fun bs => .bl (bs.any id)
  | .int, [.int i] => some (.int i)
  | .int, [.bl b] => some (.int (if b then 1 else 0))
  | .int, [.str s] => if allDig s ∧ s.length ≤ 640 then some (.int (digVal s)) else none
  | .str, [.int i] => if i.natAbs.log2 < 1920 then some (.str (intText i)) else none
  | .str, [.str s] => some (.str s)
  | .tuple, [.tup xs] => some (.tup xs)
  | .tuple, [v] => (seqOf h v).map .tup
  | .list, [v] => (seqOf h v).map .lst
  | _, _ => none

/-- what a built-in method is asked of: 0 a list, 1 a dict, 2 a text -/
def kindV (h : Heap) : Val → Option Nat
  | .str _ => some 2
  | .ref r => match h.c r with
    | some (.lst _) => some 0
    | some (.dic _ _) => some 1
    | _ => none
  | _ => none
def bmHas : Bm → Nat → Bool
  | .append, t => t == 0
  | .extend, t => t == 0
  | .pop, t => t == 0 || t == 1
  | .get, t => t == 1
  | _, t => t == 2
def bmK (h : Heap) (m : Bm) (x : Val) : Option Nat := match kindV h x with
  | some t => if bmHas m t then some t else none
  | none => none
/-- a built-in method -/
def bmV (h : Heap) (m : Bm) (x : Val) (vs : List Val) : Out Val := match m, x with
  | .append, .ref r => match h.c r, vs with
    | some (.lst xs), [y] => if xs.length < line then .ok .non (h.set r (.lst (xs ++ [y]))) else .bad
    | _, _ => .bad
  | .extend, .ref r => match h.c r, vs with
    | some (.lst xs), [.lst ys] => if xs.length + ys.length ≤ line then .ok .non (h.set r (.lst (xs ++ ys))) else .bad
    | some (.lst xs), [.ref q] => match h.c q with
      | some (.lst ys) => if xs.length + ys.length ≤ line then .ok .non (h.set r (.lst (xs ++ ys))) else .bad
      | _ => .bad
    | _, _ => .bad
  | .pop, .ref r => match h.c r, vs with
    | some (.lst xs), [] => match xs.getLast? with
      | some y => .ok y (h.set r (.lst xs.dropLast))
      | none => .bad
    | some (.lst xs), [.int i] => match place xs.length i with
      | some j => match xs[j]? with
        | some y => .ok y (h.set r (.lst (xs.eraseIdx j)))
        | none => .bad
      | none => .bad
    | some (.dic kvs false), [k] => if isKey k then match dGet kvs k with
        | some v => .ok v (h.set r (.dic (dDrop kvs k) false))
        | none => .bad
      else .bad
    | _, _ => .bad
  | .get, .ref r => match h.c r, vs with
    | some (.dic kvs _), [k] => if isKey k then .ok ((dGet kvs k).getD .non) h else .bad
    | some (.dic kvs _), [k, v] => if isKey k then .ok ((dGet kvs k).getD v) h else .bad
    | _, _ => .bad
  | .join, .str s => match vs with
    | [.lst xs] => match textsV xs with
      | some ts => if sumLen ts + s.length * ts.length ≤ line then .ok (.str (joinT s ts)) h else .bad
      | none => .bad
    | _ => .bad
  | .removeprefix, .str s => match vs with
    | [.str t] => if s.length ≤ line then .ok (.str (if t.isPrefixOf s then s.drop t.length else s)) h else .bad
    | _ => .bad
  | .startswith, .str s => match vs with
    | [.str t] => .ok (.bl (t.isPrefixOf s)) h
    | _ => .bad
  | .find, .str s => match vs with
    | [.str [c]] => .ok (.int (match s.findIdx? (· == c) with
      | some i => (i : Int)
      | none => -1)) h
    | _ => .bad
  | _, _ => .bad

/-! ### the tables -/
/-- a def: its parameters' number, its slots' number, its body -/
structure FD where
  np : Nat
  ns : Nat
  body : List S
structure Tb where
  fns : Nat → Option FD
  meth : Nat → Nat → Option Nat
  prop : Nat → Nat → Option Nat
  init : Nat → Option Nat
  /-- a class whose instances are cells; which fields its instances may have -/
  isC : Nat → Bool
  /-- a def that may be called as a value -/
  val : Nat → Bool
  fo : Nat → Nat → Bool
  /-- the exception class at the left is under the one at the right -/
  sub : Nat → Nat → Option Bool
  /-- exception classes: false: without an own __init__; true: it keeps its one argument as line -/
  exn : Nat → Option Bool
  /-- caught exceptions are looked at -/
  xi : Bool
  /-- what such a def lays is let go at its end -/
  fz : Nat → Bool
abbrev Fns := Nat → List Val → Heap → Out Val

def isiV (T : Tb) (h : Heap) (v : Val) : Ty → Option Bool
  | .int => match v with
    | .int _ => some true
    | .bl _ => some true
    | .fn _ => none
    | .ref _ => none
    | _ => some false
  | .bool => match v with
    | .bl _ => some true
    | .fn _ => none
    | .ref _ => none
    | _ => some false
  | .str => match v with
    | .str _ => some true
    | .fn _ => none
    | .ref _ => none
    | _ => some false
  | .tuple => match v with
    | .tup _ => some true
    | .fn _ => none
    | .ref _ => none
    | _ => some false
  | .cls _ => none

def lookF (fs : List (Nat × Val)) (f : Nat) : Option Val := match fs with
  | [] => none
  | p :: r => if f == p.1 then some p.2 else lookF r f
def putF (fs : List (Nat × Val)) (f : Nat) (v : Val) : List (Nat × Val) := match fs with
  | [] => [(f, v)]
  | p :: r => if p.1 == f then (p.1, v) :: r else p :: putF r f v

/-- o.f: a field, or a property -/
def attrV (T : Tb) (F : Fns) (v : Val) (f : Nat) (h : Heap) : Out Val := match v with
  | .ref r => match h.c r with
    | some (.ins c fs) => match lookF fs f with
      | some x => .ok x h
      | none => match T.prop c f with
        | some k => match F k [.ref r] h with
          | .ok x h' => .ok x h'
          | _ => .bad
        | none => .bad
    | _ => .bad
  | _ => .bad

def bindBd (vs : List Val) : List Bd → Option (List Val)
  | [] => some []
  | .pos i :: g => match vs[i]?, bindBd vs g with
    | some v, some r => some (v :: r)
    | _, _ => none
  | .dfl v :: g => (bindBd vs g).map (v :: ·)

/-- C(..) -/
def makeV (T : Tb) (F : Fns) (c : Nat) (vs : List Val) (h : Heap) : Out Val := match T.isC c, T.init c with
  | true, some k => (F k (.ref h.n :: vs) (h.push (.ins c []))).bind fun v h' => match v with
    | .non => .ok (.ref h.n) h'
    | _ => .bad
  | _, _ => .bad

/-- a new list: as a cell, or as data -/
def newL (new : Bool) (xs : List Val) (h : Heap) : Out Val := if xs.length ≤ line then (if new then .ok (.ref h.n) (h.push (.lst xs)) else .ok (.lst xs) h) else .bad

/-- stores -/
def setSlots (ρ : Env) : List Nat → List Val → Option Env
  | [], [] => some ρ
  | i :: is, v :: vs => if i < ρ.length then setSlots (ρ.set i (some v)) is vs else none
  | _, _ => none
def bindTg (ρ : Env) (tg : Tg) (v : Val) : Option Env := match tg with
  | .name i => setSlots ρ [i] [v]
  | .tup is => match v with
    | .tup vs => setSlots ρ is vs
    | _ => none
def wipeS (ρ : Env) : List Nat → Env
  | [] => ρ
  | i :: is => (wipeS ρ is).set i none

/-- 0, 1, .. -/
def upto (lo : Int) : Nat → List Val
  | 0 => []
  | n + 1 => .int lo :: upto (lo + 1) n
def rngOk (i : Int) : Prop := -(2 ^ 62) ≤ i ∧ i < 2 ^ 62
instance (i : Int) : Decidable (rngOk i) := inferInstanceAs (Decidable (_ ∧ _))
def enumFrom (i : Int) : List Val → List Val
  | [] => []
  | v :: r => .tup [.int i, v] :: enumFrom (i + 1) r
def zipV : List Val → List Val → List Val
  | a :: as, b :: bs => .tup [a, b] :: zipV as bs
  | _, _ => []
/-- what a walk gives, turn by turn; w: 0 a sequence, 1 a dict's keys (elsewhere), 2 range(b), 3 range(a, b), 4 enumerate, 5 zip -/
def walkV (h : Heap) (w : Nat) (vs : List Val) : Option (List Val) := match w, vs with
  | 0, [.str s] => some (s.map fun c => .str [c])
  | 0, [v] => seqOf h v
  | 2, [.int n] => if rngOk n then some (upto 0 n.toNat) else none
  | 3, [.int a, .int b] => if rngOk a ∧ rngOk b then some (upto a (b - a).toNat) else none
  | 4, [v] => (seqOf h v).map (enumFrom 0)
  | 5, [.tup xs, .tup ys] => some (zipV xs ys)
  | _, _ => none
/-- the walked cells stand as they stood -/
def stays (h h' : Heap) : List Val → Prop
  | [] => True
  | .ref r :: t => h'.c r = h.c r ∧ stays h h' t
  | _ :: t => stays h h' t

/-! ### the meaning -/
noncomputable section
open Classical

/-- a comprehension's turns -/
def compL (G : Heap → Prop) (step : Val → Heap → Out (List Val)) : List Val → Heap → Out (List Val)
  | [], h => .ok [] h
  | v :: r, h => match step v h with
    | .ok ys h1 => if G h1 then match compL G step r h1 with
        | .ok zs h2 => .ok (ys ++ zs) h2
        | _ => .bad
      else .bad
    | _ => .bad

/-- a for's turns -/
def forL (G : Heap → Prop) (body : Val → Env → Heap → SO) : List Val → Env → Heap → SO
  | [], ρ, h => .nx ρ h
  | v :: r, ρ, h => match body v ρ h with
    | .nx ρ' h' => if G h' then forL G body r ρ' h' else .bad
    | .ct ρ' h' => if G h' then forL G body r ρ' h' else .bad
    | .bk ρ' h' => .nx ρ' h'
    | .rt v h' => .rt v h'
    | .exc x ρ' h' => .exc x ρ' h'
    | .bad => .bad

/-- one turn of a while -/
inductive WS where
  | again (ρ : Env) (h : Heap)
  | done (o : SO)
def wIter (step : Env → Heap → WS) : Nat → Env → Heap → Option SO
  | 0, _, _ => none
  | n + 1, ρ, h => match step ρ h with
    | .again ρ' h' => wIter step n ρ' h'
    | .done o => some o
def whileL (step : Env → Heap → WS) (ρ : Env) (h : Heap) : SO :=
  if q : ∃ (o : SO) (n : Nat), wIter step n ρ h = some o then q.choose else .bad

/-- the lock on a dict is taken off -/
def unlock (r : Nat) (kvs : List (Val × Val)) : SO → SO
  | .nx ρ h => if h.c r = some (.dic kvs true) then .nx ρ (h.set r (.dic kvs false)) else .bad
  | .rt v h => if h.c r = some (.dic kvs true) then .rt v (h.set r (.dic kvs false)) else .bad
  | _ => .bad
def unlockO {α : Type} (r : Nat) (kvs : List (Val × Val)) : Out α → Out α
  | .ok v h => if h.c r = some (.dic kvs true) then .ok v (h.set r (.dic kvs false)) else .bad
  | _ => .bad
/-- a dict is walked by its keys, under a lock; e: what gives the dict, wherever it is asked -/
def dictWalk (e : Heap → Out Val) (h : Heap) : Option (Nat × List (Val × Val)) := match e h with
  | .ok (.ref r) h1 => match h1.c r with
    | some (.dic kvs false) => if h1 = h ∧ e (h.set r (.dic kvs true)) = .ok (.ref r) (h.set r (.dic kvs true)) then some (r, kvs) else none
    | _ => none
  | _ => none

section
variable (T : Tb) (F : Fns)
mutual
def evE : E → Env → Heap → Out Val
  | .var i, ρ, h => match ρ[i]? with
    | some (some v) => .ok v h
    | _ => .bad
  | .cst v, _, h => .ok v h
  | .tup es, ρ, h => (evEs es ρ h).bind fun vs h => if vs.length ≤ line then .ok (.tup vs) h else .bad
  | .lst new es, ρ, h => (evEs es ρ h).bind (newL new)
  | .dic, _, h => .ok (.ref h.n) (h.push (.dic [] false))
  | .dicI es, ρ, h => (evEs es ρ h).bind fun vs h => match pairsV vs with
    | some kvs => if kvs.length ≤ 15 then .ok (.ref h.n) (h.push (.dic (dPuts [] kvs) false)) else .bad
    | none => .bad
  | .gin rows a, ρ, h => (evE a ρ h).bind fun x h => match x with
    | .str s => .ok (.bl (rows.lookup s).isSome) h
    | _ => .bad
  | .gget rows a, ρ, h => (evE a ρ h).bind fun x h => match x with
    | .str s => match rows.lookup s with
      | some ks => .ok (.tup (ks.map .fn)) h
      | none => .bad
    | _ => .bad
  | .lenset a, ρ, h => (evE a ρ h).bind fun x h => match (seqOf h x).bind intsV with
    | some is => .ok (.int is.eraseDups.length) h
    | none => .bad
  | .op o a b, ρ, h => (evE a ρ h).bind fun x h => (evE b ρ h).bind fun y h => .ofOpt (opV h o x y) h
  | .chain o o' a b c, ρ, h => (evE a ρ h).bind fun x h => (evE b ρ h).bind fun y h => match opV h o x y with
    | some (.bl true) => (evE c ρ h).bind fun z h => .ofOpt (opV h o' y z) h
    | some (.bl false) => .ok (.bl false) h
    | _ => .bad
  | .neg a, ρ, h => (evE a ρ h).bind fun x h => match x with
    | .int i => .ok (.int (-i)) h
    | _ => .bad
  | .not a, ρ, h => (evE a ρ h).bind fun x h => .ofOpt ((truthy h x).map fun b => .bl (!b)) h
  | .and a b, ρ, h => (evE a ρ h).bind fun x h => match truthy h x with
    | some true => evE b ρ h
    | some false => .ok x h
    | none => .bad
  | .or a b, ρ, h => (evE a ρ h).bind fun x h => match truthy h x with
    | some true => .ok x h
    | some false => evE b ρ h
    | none => .bad
  | .ite c a b, ρ, h => (evE c ρ h).bind fun x h => match truthy h x with
    | some true => evE a ρ h
    | some false => evE b ρ h
    | none => .bad
  | .attr a f, ρ, h => (evE a ρ h).bind fun x h => attrV T F x f h
  | .sub a i, ρ, h => (evE a ρ h).bind fun x h => (evE i ρ h).bind fun y h => .ofOpt (subV h x y) h
  | .slice new a lo hi, ρ, h => (evE a ρ h).bind fun x h => (evEs lo ρ h).bind fun l h => match intsV l with
    | some l => (evEs hi ρ h).bind fun u h => match intsV u with
      | some u => match sliceV h x l.head? u.head? with
        | some (.lst xs) => newL new xs h
        | some v => .ok v h
        | none => .bad
      | none => .bad
    | none => .bad
  | .call k es, ρ, h => (evEs es ρ h).bind fun vs h => F k vs h
  | .callK k es g, ρ, h => (evEs es ρ h).bind fun vs h => match bindBd vs g with
    | some us => F k us h
    | none => .bad
  | .make c es, ρ, h => (evEs es ρ h).bind fun vs h => makeV T F c vs h
  | .makeK c es g, ρ, h => (evEs es ρ h).bind fun vs h => match bindBd vs g with
    | some us => makeV T F c us h
    | none => .bad
  | .callV i es, ρ, h => match ρ[i]? with
    | some (some (.fn k)) => if T.val k = true then (evEs es ρ h).bind fun vs h => F k vs h else .bad
    | _ => .bad
  | .meth a m es, ρ, h => (evE a ρ h).bind fun x h => match x with
    | .ref r => match h.c r with
      | some (.ins c fs) => match lookF fs m, T.meth c m with
        | none, some k => (evEs es ρ h).bind fun vs h => F k (.ref r :: vs) h
        | _, _ => .bad
      | _ => .bad
    | _ => .bad
  | .bm a m es, ρ, h => (evE a ρ h).bind fun x h => match bmK h m x with
    | some t => (evEs es ρ h).bind fun vs h => if bmK h m x = some t then bmV h m x vs else .bad
    | none => .bad
  | .bf f new es, ρ, h => (evEs es ρ h).bind fun vs h => match bfV h f vs with
    | some (.lst xs) => newL new xs h
    | some v => .ok v h
    | none => .bad
  | .dict a, ρ, h => (evE a ρ h).bind fun x h => match x with
    | .ref r => match h.c r with
      | some (.dic kvs _) => .ok (.ref h.n) (h.push (.dic kvs false))
      | _ => .bad
    | _ => .bad
  | .isi a t, ρ, h => (evE a ρ h).bind fun x h => .ofOpt ((isiV T h x t).map .bl) h
  | .comp new elt tg w it ifs vs, ρ, h =>
    let step := fun v h => match bindTg (wipeS ρ vs) tg v with
      | some ρ' => (evEs ifs ρ' h).bind fun bs h => match bs with
        | [] => (evE elt ρ' h).bind fun y h => .ok [y] h
        | [b] => match truthy h b with
          | some true => (evE elt ρ' h).bind fun y h => .ok [y] h
          | some false => .ok [] h
          | none => .bad
        | _ => .bad
      | none => .bad
    match w with
    | 1 => match dictWalk (fun h => (evEs it ρ h).bind fun ds h => match ds with
          | [d] => .ok d h
          | _ => .bad) h with
      | some (r, kvs) => (unlockO r kvs (compL (fun h' => h'.c r = some (.dic kvs true)) step (kvs.map (·.1)) (h.set r (.dic kvs true)))).bind (newL new)
      | none => .bad
    | _ => (evEs it ρ h).bind fun ws h => match walkV h w ws with
      | some items => match compL (fun h' => stays h h' ws) step items h with
        | .ok ys h2 => newL new ys h2
        | _ => .bad
      | none => .bad
  | .stop, _, _ => .bad
def evEs : List E → Env → Heap → Out (List Val)
  | [], _, h => .ok [] h
  | e :: es, ρ, h => (evE e ρ h).bind fun v h => (evEs es ρ h).bind fun vs h => .ok (v :: vs) h
end

theorem evEs_nil (ρ : Env) (h : Heap) : evEs T F [] ρ h = .ok [] h := by
  unfold evEs
  rfl
theorem evEs_cons (e : E) (es : List E) (ρ : Env) (h : Heap) : evEs T F (e :: es) ρ h = (evE T F e ρ h).bind fun v h => (evEs T F es ρ h).bind fun vs h => .ok (v :: vs) h := by
  conv => lhs; unfold evEs

/-- o.f = v; o[i] = v; del o[i] -/
def setAttr (T : Tb) (o : Val) (f : Nat) (v : Val) (h : Heap) : Option Heap := match o with
  | .ref r => match h.c r with
    | some (.ins c fs) => if fs.length < 1000 ∧ T.fo c f = true then some (h.set r (.ins c (putF fs f v))) else none
    | _ => none
  | _ => none
def setItem (o i v : Val) (h : Heap) : Option Heap := match o with
  | .ref r => match h.c r with
    | some (.lst xs) => match i with
      | .int k => match place xs.length k with
        | some j => some (h.set r (.lst (xs.set j v)))
        | none => none
      | _ => none
    | some (.dic kvs false) => if isKey i ∧ kvs.length < line then some (h.set r (.dic (dPut kvs i v) false)) else none
    | _ => none
  | _ => none
def delItem (o i : Val) (h : Heap) : Option Heap := match o with
  | .ref r => match h.c r with
    | some (.lst xs) => match i with
      | .int k => match place xs.length k with
        | some j => some (h.set r (.lst (xs.eraseIdx j)))
        | none => none
      | _ => none
    | _ => none
  | _ => none

/-- a test of a caught exception -/
def hxV (T : Tb) (x : Exc) (ρ : Env) : HX → Option Bool
  | .isE c => match T.exn x.c with
    | some _ => T.sub x.c c
    | none => none
  | .lineNe i => match T.exn x.c, x.f, ρ[i]? with
    | some true, [(0, .int a)], some (some (.int b)) => some (a != b)
    | _, _, _ => none
  | .not a => (hxV T x ρ a).map (!·)
  | .or a b => match hxV T x ρ a with
    | some true => some true
    | some false => hxV T x ρ b
    | none => none
def hrV (T : Tb) (x : Exc) : HR → Option Val
  | .val v => some v
  | .line => match T.exn x.c, x.f with
    | some true, [(0, .int a)] => some (.int a)
    | _, _ => none
def hxEnd (T : Tb) (x : Exc) (ρ : Env) : List (HX × HR) → HR → Option Val
  | [], r => hrV T x r
  | (t, v) :: ts, r => match hxV T x ρ t with
    | some true => hrV T x v
    | some false => hxEnd T x ρ ts r
    | none => none

mutual
def exS : S → Env → Heap → SO
  | .asg tg e, ρ, h => (evE T F e ρ h).stm ρ fun v h => match bindTg ρ tg v with
    | some ρ' => .nx ρ' h
    | none => .bad
  | .setA o f e, ρ, h => (evE T F e ρ h).stm ρ fun v h => (evE T F o ρ h).stm ρ fun x h => match setAttr T x f v h with
    | some h => .nx ρ h
    | none => .bad
  | .setI o i e, ρ, h => (evE T F e ρ h).stm ρ fun v h => (evE T F o ρ h).stm ρ fun x h => (evE T F i ρ h).stm ρ fun y h => match setItem x y v h with
    | some h => .nx ρ h
    | none => .bad
  | .augN i o e, ρ, h => match ρ[i]? with
    | some (some x) => (evE T F e ρ h).stm ρ fun y h => match augV o x y with
      | some z => .nx (ρ.set i (some z)) h
      | none => .bad
    | _ => .bad
  | .augA a f o e, ρ, h => (evE T F a ρ h).stm ρ fun x h => match x with
    | .ref r => match h.c r with
      | some (.ins _ fs) => match lookF fs f with
        | some v => (evE T F e ρ h).stm ρ fun y h => match augV o v y with
          | some z => match setAttr T (.ref r) f z h with
            | some h => .nx ρ h
            | none => .bad
          | none => .bad
        | none => .bad
      | _ => .bad
    | _ => .bad
  | .expr e, ρ, h => (evE T F e ρ h).stm ρ fun _ h => .nx ρ h
  | .ret e, ρ, h => (evE T F e ρ h).stm ρ fun v h => .rt v h
  | .retN, _, h => .rt .non h
  | .ife c a b, ρ, h => (evE T F c ρ h).stm ρ fun x h => match truthy h x with
    | some true => exB a ρ h
    | some false => exB b ρ h
    | none => .bad
  | .loop tg w it body, ρ, h =>
    let turn := fun v ρ h => match bindTg ρ tg v with
      | some ρ' => exB body ρ' h
      | none => .bad
    match w with
    | 1 => match dictWalk (fun h => (evEs T F it ρ h).bind fun ds h => match ds with
          | [d] => .ok d h
          | _ => .bad) h with
      | some (r, kvs) => unlock r kvs (forL (fun h' => h'.c r = some (.dic kvs true)) turn (kvs.map (·.1)) ρ (h.set r (.dic kvs true)))
      | none => .bad
    | _ => (evEs T F it ρ h).stm ρ fun ws h => match walkV h w ws with
      | some items => forL (fun h' => stays h h' ws) turn items ρ h
      | none => .bad
  | .whl c body, ρ, h => whileL (fun ρ h => match evE T F c ρ h with
      | .ok x h => match truthy h x with
        | some true => match exB body ρ h with
          | .nx ρ h => .again ρ h
          | .ct ρ h => .again ρ h
          | .bk ρ h => .done (.nx ρ h)
          | o => .done o
        | some false => .done (.nx ρ h)
        | none => .done .bad
      | .exc x h => .done (.exc x ρ h)
      | .bad => .done .bad) ρ h
  | .raise c es, ρ, h => (evEs T F es ρ h).stm ρ fun vs h => match T.exn c, vs with
    | some false, [] => .exc ⟨c, []⟩ ρ h
    | some false, [_] => .exc ⟨c, []⟩ ρ h
    | some true, [.int i] => .exc ⟨c, [(0, .int i)]⟩ ρ h
    | _, _ => .bad
  | .try_ body c suite, ρ, h => match exB body ρ h with
    | .exc x ρ' h' => match T.sub x.c c with
      | some true => match exB suite ρ' h' with
        | .exc _ _ _ => .bad
        | o => o
      | some false => .exc x ρ' h'
      | none => .bad
    | o => o
  | .tryAs body c i ts last, ρ, h => match exB body ρ h with
    | .exc x ρ' h' => match T.sub x.c c with
      | some true => if i < ρ'.length then match hxEnd T x (ρ'.set i none) ts last with
        | some v => .rt v h'
        | none => .bad
        else .bad
      | some false => .exc x ρ' h'
      | none => .bad
    | o => o
  | .del a i, ρ, h => (evE T F a ρ h).stm ρ fun x h => (evE T F i ρ h).stm ρ fun y h => match delItem x y h with
    | some h => .nx ρ h
    | none => .bad
  | .pass, ρ, h => .nx ρ h
  | .brk, ρ, h => .bk ρ h
  | .cont, ρ, h => .ct ρ h
  | .stop, _, _ => .bad
def exB : List S → Env → Heap → SO
  | [], ρ, h => .nx ρ h
  | s :: r, ρ, h => (exS s ρ h).next fun ρ h => exB r ρ h
end
end

/-- what a def's body gives its caller -/
def retO : SO → Out Val
  | .nx _ h => .ok .non h
  | .rt v h => .ok v h
  | .exc x _ h => .exc x h
  | _ => .bad
/-- a value without what was laid since h: new lists become data -/
def frzV (h h' : Heap) : Nat → Val → Option Val
  | 0, _ => none
  | n + 1, .tup xs => (mapO (frzV h h' n) xs).map .tup
  | n + 1, .lst xs => (mapO (frzV h h' n) xs).map .lst
  | n + 1, .arr xs => (mapO (frzV h h' n) xs).map .arr
  | n + 1, .ref r => if r < h.n then (match h.c r with
      | some _ => some (.ref r)
      | none => none) else match h'.c r with
    | some (.lst xs) => (mapO (frzV h h' n) xs).map .lst
    | _ => none
  | _ + 1, v => some v
/-- nothing that stood has changed -/
def same (h h' : Heap) : Prop := ∀ r, r < h.n → h'.c r = h.c r
/-- what was laid since h is let go -/
noncomputable def fold (h : Heap) (o : Out Val) : Out Val := match o with
  | .ok v h' => open Classical in if same h h' then (match frzV h h' 64 v with
      | some w => .ok w h
      | none => .bad) else .bad
  | .exc x h' => open Classical in if same h h' then .exc x h else .bad
  | .bad => .bad
/-- a call, at most d deep -/
noncomputable def callF (T : Tb) : Nat → Fns
  | 0 => fun _ _ _ => .bad
  | d + 1 => fun k vs h => match T.fns k with
    | some fd => if vs.length = fd.np then
        (if T.fz k = true then fold h else id) (retO (exB T (callF T d) fd.body (vs.map some ++ List.replicate (fd.ns - fd.np) none) h)) else .bad
    | none => .bad
theorem callF_succ (T : Tb) (d k : Nat) (vs : List Val) (h : Heap) (fd : FD) (e : T.fns k = some fd) (l : vs.length = fd.np) :
    callF T (d + 1) k vs h = (if T.fz k = true then fold h else id) (retO (exB T (callF T d) fd.body (vs.map some ++ List.replicate (fd.ns - fd.np) none) h)) := by
  simp only [callF, e, l, if_true]
theorem callF_n (T : Tb) (d k : Nat) (vs : List Val) (h : Heap) (fd : FD) (e : T.fns k = some fd) (z : T.fz k = false) (l : vs.length = fd.np) :
    callF T (d + 1) k vs h = retO (exB T (callF T d) fd.body (vs.map some ++ List.replicate (fd.ns - fd.np) none) h) := by
  rw [callF_succ T d k vs h fd e l, z]
  rfl
theorem callF_z (T : Tb) (d k : Nat) (vs : List Val) (h : Heap) (fd : FD) (e : T.fns k = some fd) (z : T.fz k = true) (l : vs.length = fd.np) :
    callF T (d + 1) k vs h = fold h (retO (exB T (callF T d) fd.body (vs.map some ++ List.replicate (fd.ns - fd.np) none) h)) := by
  rw [callF_succ T d k vs h fd e l, z]
  rfl
end

/-! ### a while, turn by turn -/
theorem wIter_mono {step : Env → Heap → WS} : ∀ {n : Nat} {ρ : Env} {h : Heap} {o : SO}, wIter step n ρ h = some o → ∀ m, n ≤ m → wIter step m ρ h = some o
  | 0, _, _, _, e, _, _ => by cases e
  | n + 1, ρ, h, o, e, m, l => by
    obtain ⟨m', rfl⟩ : ∃ m', m = m' + 1 := ⟨m - 1, by omega⟩
    unfold wIter at e ⊢
    split at e
    · exact wIter_mono e m' (by omega)
    · exact e
theorem whileL_of {step : Env → Heap → WS} {n : Nat} {ρ : Env} {h : Heap} {o : SO} (e : wIter step n ρ h = some o) : whileL step ρ h = o := by
  have q : ∃ (o : SO) (n : Nat), wIter step n ρ h = some o := ⟨o, n, e⟩
  unfold whileL
  rw [dif_pos q]
  obtain ⟨m, e2⟩ := q.choose_spec
  have a := wIter_mono e (max n m) (Nat.le_max_left _ _)
  have b := wIter_mono e2 (max n m) (Nat.le_max_right _ _)
  rw [a] at b
  exact (Option.some.inj b).symm
theorem whileL_eq (step : Env → Heap → WS) (ρ : Env) (h : Heap) : whileL step ρ h = match step ρ h with
    | .again ρ' h' => whileL step ρ' h'
    | .done o => o := by
  cases e : step ρ h with
  | done o => exact whileL_of (n := 1) (by simp only [wIter, e])
  | again ρ' h' =>
    by_cases q : ∃ (o : SO) (n : Nat), wIter step n ρ' h' = some o
    · obtain ⟨o, n, w⟩ := q
      show whileL step ρ h = whileL step ρ' h'
      rw [whileL_of w]
      exact whileL_of (n := n + 1) (by simp only [wIter, e, w])
    · have q' : ¬ ∃ (o : SO) (n : Nat), wIter step n ρ h = some o := fun ⟨o, n, w⟩ => by
        cases n with
        | zero => cases w
        | succ n =>
          simp only [wIter, e] at w
          exact q ⟨o, n, w⟩
      show whileL step ρ h = whileL step ρ' h'
      unfold whileL
      rw [dif_neg q, dif_neg q']
/-- what a while that ends well has run -/
theorem whileL_runs {step : Env → Heap → WS} {ρ : Env} {h : Heap} (e : whileL step ρ h ≠ .bad) : ∃ n, wIter step n ρ h = some (whileL step ρ h) := by
  by_cases q : ∃ (o : SO) (n : Nat), wIter step n ρ h = some o
  · obtain ⟨o, n, w⟩ := q
    exact ⟨n, by rw [whileL_of w]; exact w⟩
  · exfalso
    apply e
    unfold whileL
    rw [dif_neg q]

end MP

/-! Mp1a: how MP's values, cells, heaps lie in the hand layer's abstract heap -/
namespace MP
open PySem PySem.Spec PyProof.Rows L2

/-- the link: the written part, the addresses of defs and classes, the names of fields -/
structure Lk where
  K : PySem.W.Frag
  fa : Nat → Addr
  ca : Nat → Addr
  nm : Nat → PySem.Str
  T : Tb
  /-- lists that are being made: no value lies there -/
  pv : Addr → Prop
/-- the same link with other lists in the making -/
@[reducible] def Lk.pvs (L : Lk) (pv : Addr → Prop) : Lk := { L with pv := pv }
abbrev Bt := Nat → Option Addr

/-- no cell, no list in the making -/
def Un (L : Lk) (β : Bt) (a : Addr) : Prop := ¬ L.pv a ∧ ∀ r, β r ≠ some a
/-- a list that is read alone -/
def ArrAt (L : Lk) (β : Bt) (H : Hp) (a : Addr) (vs : List V) : Prop :=
  (H a = some (.lst vs) ∧ Un L β a) ∨ (∃ o, H a = some (.frz o (.lst vs))) ∨
    ∃ (o : Obj) (its : Array Value) (n : Nat), L.K.lookup a = some o ∧ o.cls = .type "list" ∧ o.dict = none ∧ o.data = .seq its n ∧ its.size ≤ sizeLine ∧ Vals vs its.toList
theorem ArrAt.sql {L : Lk} {β : Bt} {H : Hp} {a : Addr} {vs : List V} (h : ArrAt L β H a vs) : SqL L.K H a vs := by
  rcases h with ⟨h, _⟩ | h | h
  · exact .inl (.inl h)
  · exact .inl (.inr h)
  · exact .inr h

mutual
inductive VR (L : Lk) (β : Bt) (H : Hp) : V → Val → Prop where
  | non : VR L β H .non .non
  | bl (b : Bool) : VR L β H (.bl b) (.bl b)
  | int (i : Int) : VR L β H (.int i) (.int i)
  | str (s : List Nat) : VR L β H (.str ⟨s.toArray⟩) (.str s)
  | tup {a : Addr} {vs : List V} {xs : List Val} : SqT L.K H a vs → VRs L β H vs xs → VR L β H (.ref a) (.tup xs)
  | lst {a : Addr} {vs : List V} {xs : List Val} : H a = some (.lst vs) → Un L β a → VRs L β H vs xs → VR L β H (.ref a) (.lst xs)
  | arr {a : Addr} {vs : List V} {xs : List Val} : ArrAt L β H a vs → VRs L β H vs xs → VR L β H (.ref a) (.arr xs)
  | ref {a : Addr} {r : Nat} : β r = some a → VR L β H (.ref a) (.ref r)
  | fn (k : Nat) : VR L β H (.ref (L.fa k)) (.fn k)
inductive VRs (L : Lk) (β : Bt) (H : Hp) : List V → List Val → Prop where
  | nil : VRs L β H [] []
  | cons {v : V} {x : Val} {vs : List V} {xs : List Val} : VR L β H v x → VRs L β H vs xs → VRs L β H (v :: vs) (x :: xs)
end

/-- a key -/
def kOf : Val → Option Key
  | .int i => some (.inl i)
  | .str s => some (.inr ⟨s.toArray⟩)
  | _ => none

/-- pairs by pairs -/
inductive KR (L : Lk) (β : Bt) (H : Hp) : List (Key × V) → List (Val × Val) → Prop where
  | nil : KR L β H [] []
  | cons {k : Key} {v : V} {a x : Val} {ps : List (Key × V)} {qs : List (Val × Val)} : kOf a = some k → VR L β H v x → KR L β H ps qs → KR L β H ((k, v) :: ps) ((a, x) :: qs)
inductive FR (L : Lk) (β : Bt) (H : Hp) : List (PySem.Str × V) → List (Nat × Val) → Prop where
  | nil : FR L β H [] []
  | cons {f : Nat} {v : V} {x : Val} {ps : List (PySem.Str × V)} {qs : List (Nat × Val)} : VR L β H v x → FR L β H ps qs → FR L β H ((L.nm f, v) :: ps) ((f, x) :: qs)

/-- a cell at an address -/
def CR (L : Lk) (β : Bt) (H : Hp) (a : Addr) : Cell → Prop
  | .lst xs => ∃ vs, H a = some (.lst vs) ∧ VRs L β H vs xs
  | .dic kvs false => ∃ ps, H a = some (.dK ps) ∧ KR L β H ps kvs
  | .dic kvs true => ∃ ps o, H a = some (.frz o (.dK ps)) ∧ KR L β H ps kvs
  | .ins c fs => L.T.isC c = true ∧ (∀ p ∈ fs, L.T.fo c p.1 = true) ∧ ∃ dx ps, H a = some (.ins (L.ca c) dx ps) ∧ FR L β H ps fs

structure Sim (L : Lk) (β : Bt) (H : Hp) (h : Heap) : Prop where
  fwd : ∀ r c, h.c r = some c → ∃ a, β r = some a
  bwd : ∀ r a, β r = some a → r < h.n ∧ ∃ c, h.c r = some c ∧ CR L β H a c
  inj : ∀ r q a, β r = some a → β q = some a → r = q
  priv : ∀ a, L.pv a → H a ≠ none ∧ ∀ r, β r ≠ some a

/-- from a state to a later one -/
structure Ext (β : Bt) (H : Hp) (β' : Bt) (H' : Hp) : Prop where
  keep : ∀ r a, β r = some a → β' r = some a
  rest : ∀ a o, H a = some o → (∀ r, β r ≠ some a) → H' a = some o
  new : ∀ r a, β' r = some a → β r = some a ∨ H a = none
  there : ∀ a, H a ≠ none → H' a ≠ none

section
variable {L : Lk} {β β' β2 : Bt} {H H' H2 : Hp}
theorem Ext.refl : Ext β H β H := ⟨fun _ _ e => e, fun _ _ e _ => e, fun _ _ e => .inl e, fun _ e => e⟩
theorem Ext.out (x : Ext β H β' H') {a : Addr} (ha : H a ≠ none) (n : ∀ r, β r ≠ some a) : ∀ r, β' r ≠ some a := fun r e => by
  rcases x.new r a e with q | q
  · exact n r q
  · exact ha q
theorem Ext.trans (x : Ext β H β' H') (y : Ext β' H' β2 H2) : Ext β H β2 H2 where
  keep := fun r a e => y.keep r a (x.keep r a e)
  rest := fun a o e n => y.rest a o (x.rest a o e n) (x.out (by rw [e]; simp) n)
  new := fun r a e => by
    rcases y.new r a e with q | q
    · exact x.new r a q
    · refine .inr ?_
      cases hz : H a with
      | none => rfl
      | some o => exact absurd q (x.there a (by rw [hz]; simp))
  there := fun a e => y.there a (x.there a e)
theorem CR.ne {a : Addr} {c : Cell} (x : CR L β H a c) : (∃ vs, H a = some (.lst vs)) ∨ (∃ ps, H a = some (.dK ps)) ∨ (∃ ps o, H a = some (.frz o (.dK ps))) ∨ ∃ C dx ps, H a = some (.ins C dx ps) := by
  cases c with
  | lst xs => obtain ⟨vs, e, _⟩ := x; exact .inl ⟨vs, e⟩
  | dic kvs b =>
    cases b with
    | false => obtain ⟨ps, e, _⟩ := x; exact .inr (.inl ⟨ps, e⟩)
    | true => obtain ⟨ps, o, e, _⟩ := x; exact .inr (.inr (.inl ⟨ps, o, e⟩))
  | ins c fs => obtain ⟨_, _, dx, ps, e, _⟩ := x; exact .inr (.inr (.inr ⟨_, dx, ps, e⟩))
theorem Sim.notup {h : Heap} (S : Sim L β H h) {a : Addr} {vs : List V} (e : H a = some (.tup vs) ∨ ∃ o, H a = some (.frz o (.tup vs))) : ∀ r, β r ≠ some a := fun r q => by
  obtain ⟨_, c, _, x⟩ := S.bwd r a q
  rcases x.ne with ⟨_, z⟩ | ⟨_, z⟩ | ⟨_, _, z⟩ | ⟨_, _, _, z⟩ <;> (rcases e with e | ⟨_, e⟩ <;> (rw [z] at e; cases e))
theorem Sim.noown {h : Heap} (S : Sim L β H h) {a b : Addr} (e : H a = some (.own b)) : ∀ r, β r ≠ some a := fun r q => by
  obtain ⟨_, c, _, x⟩ := S.bwd r a q
  rcases x.ne with ⟨_, z⟩ | ⟨_, z⟩ | ⟨_, _, z⟩ | ⟨_, _, _, z⟩ <;> (rw [z] at e; cases e)
theorem Sim.free {h : Heap} (S : Sim L β H h) {a : Addr} (e : H a = none) : ∀ r, β r ≠ some a := fun r q => by
  obtain ⟨_, c, _, x⟩ := S.bwd r a q
  rcases x.ne with ⟨_, z⟩ | ⟨_, z⟩ | ⟨_, _, z⟩ | ⟨_, _, _, z⟩ <;> (rw [z] at e; cases e)
theorem Sim.un {h : Heap} (S : Sim L β H h) {a : Addr} (e : H a = none) : Un L β a := ⟨fun q => (S.priv a q).1 e, S.free e⟩
theorem Sim.fresh {h : Heap} (S : Sim L β H h) : β h.n = none := by
  cases e : β h.n with
  | none => rfl
  | some a => exact absurd (S.bwd _ _ e).1 (Nat.lt_irrefl _)
theorem Ext.sqt {h : Heap} (S : Sim L β H h) (x : Ext β H β' H') {a : Addr} {vs : List V} (e : SqT L.K H a vs) : SqT L.K H' a vs := by
  rcases e with (e | ⟨o, e⟩) | e
  · exact .inl (.inl (x.rest a _ e (S.notup (.inl e))))
  · exact .inl (.inr ⟨o, x.rest a _ e (S.notup (.inr ⟨o, e⟩))⟩)
  · exact .inr e
theorem Sim.nofrz {h : Heap} (S : Sim L β H h) {a : Addr} {vs : List V} {o : Obj} (e : H a = some (.frz o (.lst vs))) : ∀ r, β r ≠ some a := fun r q => by
  obtain ⟨_, c, _, x⟩ := S.bwd r a q
  rcases x.ne with ⟨_, z⟩ | ⟨_, z⟩ | ⟨_, _, z⟩ | ⟨_, _, _, z⟩ <;> (rw [z] at e; cases e)
theorem Ext.arr {h : Heap} (S : Sim L β H h) (x : Ext β H β' H') {a : Addr} {vs : List V} (e : ArrAt L β H a vs) : ArrAt L β' H' a vs := by
  rcases e with ⟨e, n⟩ | ⟨o, e⟩ | e
  · exact .inl ⟨x.rest a _ e n.2, n.1, x.out (by rw [e]; simp) n.2⟩
  · exact .inr (.inl ⟨o, x.rest a _ e (S.nofrz e)⟩)
  · exact .inr (.inr e)
end

mutual
theorem VR.mono {L : Lk} {β β' : Bt} {H H' : Hp} {h : Heap} (S : Sim L β H h) (x : Ext β H β' H') : ∀ {v : V} {a : Val}, VR L β H v a → VR L β' H' v a
  | _, _, .non => .non
  | _, _, .bl b => .bl b
  | _, _, .int i => .int i
  | _, _, .str s => .str s
  | _, _, .tup e r => .tup (x.sqt S e) (VRs.mono S x r)
  | _, _, .lst e n r => .lst (x.rest _ _ e n.2) ⟨n.1, x.out (by rw [e]; simp) n.2⟩ (VRs.mono S x r)
  | _, _, .arr e r => .arr (x.arr S e) (VRs.mono S x r)
  | _, _, .ref e => .ref (x.keep _ _ e)
  | _, _, .fn k => .fn k
theorem VRs.mono {L : Lk} {β β' : Bt} {H H' : Hp} {h : Heap} (S : Sim L β H h) (x : Ext β H β' H') : ∀ {vs : List V} {as : List Val}, VRs L β H vs as → VRs L β' H' vs as
  | _, _, .nil => .nil
  | _, _, .cons r t => .cons (VR.mono S x r) (VRs.mono S x t)
end
section
variable {L : Lk} {β β' β2 : Bt} {H H' H2 : Hp} {h : Heap}
theorem KR.mono (S : Sim L β H h) (x : Ext β H β' H') : ∀ {ps : List (Key × V)} {qs : List (Val × Val)}, KR L β H ps qs → KR L β' H' ps qs
  | _, _, .nil => .nil
  | _, _, .cons e r t => .cons e (r.mono S x) (KR.mono S x t)
theorem FR.mono (S : Sim L β H h) (x : Ext β H β' H') : ∀ {ps : List (PySem.Str × V)} {qs : List (Nat × Val)}, FR L β H ps qs → FR L β' H' ps qs
  | _, _, .nil => .nil
  | _, _, .cons r t => .cons (r.mono S x) (FR.mono S x t)
theorem VRs.length : ∀ {vs : List V} {xs : List Val}, VRs L β H vs xs → vs.length = xs.length
  | _, _, .nil => rfl
  | _, _, .cons _ t => congrArg Nat.succ (VRs.length t)
theorem VRs.get : ∀ {vs : List V} {xs : List Val} {i : Nat} {x : Val}, VRs L β H vs xs → xs[i]? = some x → ∃ v, vs[i]? = some v ∧ VR L β H v x
  | _, _, _, _, .nil, e => by simp at e
  | _, _, 0, _, .cons r _, e => by simp at e; subst e; exact ⟨_, rfl, r⟩
  | _, _, i + 1, x, .cons _ t, e => by
    obtain ⟨v, h1, h2⟩ := VRs.get (i := i) (x := x) t (by simpa using e)
    exact ⟨v, by simpa using h1, h2⟩
theorem VRs.append : ∀ {vs ws : List V} {xs ys : List Val}, VRs L β H vs xs → VRs L β H ws ys → VRs L β H (vs ++ ws) (xs ++ ys)
  | _, _, _, _, .nil, s => s
  | _, _, _, _, .cons r t, s => .cons r (VRs.append t s)
theorem VRs.set {v : V} {x : Val} (r : VR L β H v x) : ∀ {vs : List V} {xs : List Val} (i : Nat), VRs L β H vs xs → VRs L β H (vs.set i v) (xs.set i x)
  | _, _, _, .nil => .nil
  | _, _, 0, .cons _ t => .cons r t
  | _, _, i + 1, .cons q t => .cons q (VRs.set r i t)
theorem VRs.erase : ∀ {vs : List V} {xs : List Val} (i : Nat), VRs L β H vs xs → VRs L β H (vs.eraseIdx i) (xs.eraseIdx i)
  | _, _, _, .nil => .nil
  | _, _, 0, .cons _ t => t
  | _, _, i + 1, .cons q t => .cons q (VRs.erase i t)
theorem VRs.take : ∀ {vs : List V} {xs : List Val} (n : Nat), VRs L β H vs xs → VRs L β H (vs.take n) (xs.take n)
  | _, _, 0, _ => by simpa using VRs.nil
  | _, _, n + 1, .nil => .nil
  | _, _, n + 1, .cons q t => .cons q (VRs.take n t)
theorem VRs.drop : ∀ {vs : List V} {xs : List Val} (n : Nat), VRs L β H vs xs → VRs L β H (vs.drop n) (xs.drop n)
  | _, _, 0, r => r
  | _, _, n + 1, .nil => .nil
  | _, _, n + 1, .cons _ t => VRs.drop n t
theorem VRs.dropLast : ∀ {vs : List V} {xs : List Val}, VRs L β H vs xs → VRs L β H vs.dropLast xs.dropLast
  | _, _, .nil => .nil
  | _, _, .cons r .nil => .nil
  | _, _, .cons r (.cons q t) => .cons r (VRs.dropLast (.cons q t))
theorem VRs.split : ∀ {vs : List V} {xs ys : List Val}, VRs L β H vs (xs ++ ys) → ∃ us ws, vs = us ++ ws ∧ VRs L β H us xs ∧ VRs L β H ws ys
  | vs, [], _, r => ⟨[], vs, rfl, .nil, r⟩
  | _, x :: xs, ys, .cons r t => by
    obtain ⟨us, ws, e, r1, r2⟩ := VRs.split t
    exact ⟨_ :: us, ws, by rw [e]; rfl, .cons r r1, r2⟩

/-! ### new cells, changed cells -/
def bnd (β : Bt) (r : Nat) (a : Addr) : Bt := fun q => if q = r then some a else β q
theorem bnd_same {r : Nat} {a : Addr} : bnd β r a r = some a := if_pos rfl
theorem bnd_ne {r q : Nat} {a : Addr} (e : q ≠ r) : bnd β r a q = β q := if_neg e
theorem Ext.laid (S : Sim L β H h) {p : Addr} {o : HO} (e : H p = none) : Ext β H β (upd H p o) :=
  ⟨fun _ _ q => q, fun a u q _ => by rw [upd_ne (ne_of_none q e)]; exact q, fun _ _ q => .inl q, fun a q => by
    by_cases z : a = p
    · subst z; exact absurd e q
    · rw [upd_ne z]; exact q⟩
theorem Ext.bound (S : Sim L β H h) {p : Addr} {o : HO} (e : H p = none) : Ext β H (bnd β h.n p) (upd H p o) where
  keep := fun r a q => by rw [bnd_ne (fun z => by subst z; rw [S.fresh] at q; cases q)]; exact q
  rest := fun a u q _ => by rw [upd_ne (ne_of_none q e)]; exact q
  new := fun r a q => by
    by_cases z : r = h.n
    · subst z; rw [bnd_same] at q; cases q; exact .inr e
    · rw [bnd_ne z] at q; exact .inl q
  there := fun a q => by
    by_cases z : a = p
    · subst z; exact absurd e q
    · rw [upd_ne z]; exact q
theorem CR.mono (S : Sim L β H h) (x : Ext β H β' H') {a : Addr} {c : Cell} (e : H' a = H a) (r : CR L β H a c) : CR L β' H' a c := by
  cases c with
  | lst xs => obtain ⟨vs, q, t⟩ := r; exact ⟨vs, e.trans q, t.mono S x⟩
  | dic kvs b =>
    cases b with
    | false => obtain ⟨ps, q, t⟩ := r; exact ⟨ps, e.trans q, t.mono S x⟩
    | true => obtain ⟨ps, o, q, t⟩ := r; exact ⟨ps, o, e.trans q, t.mono S x⟩
  | ins c fs => obtain ⟨w1, w2, dx, ps, q, t⟩ := r; exact ⟨w1, w2, dx, ps, e.trans q, t.mono S x⟩
/-- a thing is laid that is no cell -/
theorem Sim.laid (S : Sim L β H h) {p : Addr} {o : HO} (e : H p = none) : Sim L β (upd H p o) h where
  fwd := S.fwd
  bwd := fun r a q => by
    obtain ⟨l, c, hc, x⟩ := S.bwd r a q
    exact ⟨l, c, hc, x.mono S (Ext.laid S e) (upd_ne fun z => S.free e r (by rw [q, z]))⟩
  inj := S.inj
  priv := fun a q => ⟨(Ext.laid S e).there a (S.priv a q).1, (S.priv a q).2⟩
/-- a new cell -/
theorem Sim.push (S : Sim L β H h) {p : Addr} {o : HO} {c : Cell} (e : H p = none) (x : CR L (bnd β h.n p) (upd H p o) p c) : Sim L (bnd β h.n p) (upd H p o) (h.push c) where
  fwd := fun r d q => by
    by_cases z : r = h.n
    · subst z; exact ⟨p, bnd_same⟩
    · have q' : h.c r = some d := by
        have : (if r = h.n then some c else h.c r) = some d := q
        rwa [if_neg z] at this
      obtain ⟨a, y⟩ := S.fwd r d q'
      exact ⟨a, by rw [bnd_ne z]; exact y⟩
  bwd := fun r a q => by
    by_cases z : r = h.n
    · subst z
      rw [bnd_same] at q; cases q
      exact ⟨Nat.lt_succ_self _, c, if_pos rfl, x⟩
    · rw [bnd_ne z] at q
      obtain ⟨l, d, hd, y⟩ := S.bwd r a q
      exact ⟨Nat.lt_succ_of_lt l, d, by show (if r = h.n then some c else h.c r) = some d; rw [if_neg z]; exact hd,
        y.mono S (Ext.bound S e) (upd_ne fun w => S.free e r (by rw [q, w]))⟩
  inj := fun r q a h1 h2 => by
    by_cases z : r = h.n
    · by_cases w : q = h.n
      · rw [z, w]
      · subst z
        rw [bnd_same] at h1; cases h1
        rw [bnd_ne w] at h2
        exact absurd h2 (S.free e q)
    · rw [bnd_ne z] at h1
      by_cases w : q = h.n
      · subst w
        rw [bnd_same] at h2; cases h2
        exact absurd h1 (S.free e r)
      · rw [bnd_ne w] at h2
        exact S.inj r q a h1 h2
  priv := fun a q => ⟨(Ext.laid S e).there a (S.priv a q).1, fun r w => by
    by_cases z : r = h.n
    · subst z
      rw [bnd_same] at w
      cases w
      exact (S.priv _ q).1 e
    · rw [bnd_ne z] at w
      exact (S.priv a q).2 r w⟩
/-- a cell is changed -/
theorem Ext.change {r : Nat} {a : Addr} {o : HO} (e : β r = some a) : Ext β H β (upd H a o) :=
  ⟨fun _ _ q => q, fun b u q n => by rw [upd_ne (fun z => n r (by rw [e, z]))]; exact q, fun _ _ q => .inl q, fun b q => by
    by_cases z : b = a
    · subst z; rw [upd_same]; simp
    · rw [upd_ne z]; exact q⟩
theorem Sim.change (S : Sim L β H h) {r : Nat} {a : Addr} {o : HO} {c : Cell} (e : β r = some a) (x : CR L β (upd H a o) a c) : Sim L β (upd H a o) (h.set r c) where
  fwd := fun q d z => by
    by_cases w : q = r
    · subst w; exact ⟨a, e⟩
    · exact S.fwd q d (by have : (if q = r then some c else h.c q) = some d := z; rwa [if_neg w] at this)
  bwd := fun q b z => by
    obtain ⟨l, d, hd, y⟩ := S.bwd q b z
    by_cases w : q = r
    · subst w
      rw [e] at z; cases z
      exact ⟨l, c, if_pos rfl, x⟩
    · refine ⟨l, d, by show (if q = r then some c else h.c q) = some d; rw [if_neg w]; exact hd, y.mono S (Ext.change e) (upd_ne fun u => w (S.inj q r a (by rw [z, u]) e))⟩
  inj := S.inj
  priv := fun b q => ⟨(Ext.change e).there b (S.priv b q).1, (S.priv b q).2⟩
theorem Sim.at (S : Sim L β H h) {r : Nat} {c : Cell} (e : h.c r = some c) : ∃ a, β r = some a ∧ CR L β H a c := by
  obtain ⟨a, q⟩ := S.fwd r c e
  obtain ⟨_, d, hd, x⟩ := S.bwd r a q
  rw [e] at hd; cases hd
  exact ⟨a, q, x⟩
end

/-! ### slots -/
structure ER (L : Lk) (β : Bt) (H : Hp) (σ : L2.St) (ρ : Env) : Prop where
  len : σ.length = ρ.length
  get : ∀ (i : Nat) (x : Val), ρ[i]? = some (some x) → ∃ v, σ[i]? = some (some v) ∧ VR L β H v x
section
variable {L : Lk} {β β' β2 : Bt} {H H' H2 : Hp} {h : Heap} {σ : L2.St} {ρ : Env}
theorem ER.mono (S : Sim L β H h) (x : Ext β H β' H') (R : ER L β H σ ρ) : ER L β' H' σ ρ :=
  ⟨R.len, fun i v e => by obtain ⟨u, a, b⟩ := R.get i v e; exact ⟨u, a, b.mono S x⟩⟩
theorem ER.set (R : ER L β H σ ρ) {v : V} {x : Val} (r : VR L β H v x) (i : Nat) : ER L β H (σ.set i (some v)) (ρ.set i (some x)) :=
  ⟨by rw [List.length_set, List.length_set]; exact R.len, fun j y e => by
    by_cases z : i = j
    · subst z
      have hl : i < ρ.length := by
        have := (List.getElem?_eq_some_iff.mp e).1
        rwa [List.length_set] at this
      rw [List.getElem?_set_self hl] at e
      cases e
      exact ⟨v, List.getElem?_set_self (by rw [R.len]; exact hl), r⟩
    · rw [List.getElem?_set_ne z] at e
      rw [List.getElem?_set_ne z]
      exact R.get j y e⟩
theorem ER.gone (R : ER L β H σ ρ) (i : Nat) : ER L β H (σ.set i none) (ρ.set i none) :=
  ⟨by rw [List.length_set, List.length_set]; exact R.len, fun j y e => by
    by_cases z : i = j
    · subst z
      have hl : i < ρ.length := by
        have := (List.getElem?_eq_some_iff.mp e).1
        rwa [List.length_set] at this
      rw [List.getElem?_set_self hl] at e
      cases e
    · rw [List.getElem?_set_ne z] at e
      rw [List.getElem?_set_ne z]
      exact R.get j y e⟩
theorem ER.wipe (R : ER L β H σ ρ) : ∀ (vs : List Nat), ER L β H (L2.wipe σ vs) (wipeS ρ vs)
  | [] => R
  | i :: vs => ER.gone (ER.wipe R vs) i
end

/-! ### what is wanted of an end -/
/-- an exception as it lies -/
def ExR (L : Lk) (H : Hp) (cls : Value) (d : Option Addr) (x : Exc) : Prop :=
  cls = .ref (L.ca x.c) ∧ ((x.f = [] ∧ d = none) ∨ ∃ (v : Val) (dd : Addr) (i : Int), x.f = [(0, v)] ∧ v = .int i ∧ d = some dd ∧ H dd = some (.xd [("line", .int i)]))
def Pst (L : Lk) (β : Bt) (H : Hp) (o : Out Val) (Q : VK) (E : XK) : Prop := match o with
  | .ok v h' => ∀ u β' H', Ext β H β' H' → Sim L β' H' h' → VR L β' H' u v → Q u H'
  | .exc x h' => ∀ cls d β' H', Ext β H β' H' → Sim L β' H' h' → ExR L H' cls d x → E cls d H'
  | .bad => False
def Psts (L : Lk) (β : Bt) (H : Hp) (o : Out (List Val)) (Q : List V → Hp → Prop) (E : XK) : Prop := match o with
  | .ok vs h' => ∀ us β' H', Ext β H β' H' → Sim L β' H' h' → VRs L β' H' us vs → Q us H'
  | .exc x h' => ∀ cls d β' H', Ext β H β' H' → Sim L β' H' h' → ExR L H' cls d x → E cls d H'
  | .bad => False
section
variable {L : Lk} {β β' β2 : Bt} {H H' H2 : Hp} {Q Q' : VK} {E : XK} {o : Out Val}
theorem Pst.mono (x : Ext β H β' H') (p : Pst L β H o Q E) : Pst L β' H' o Q E := by
  cases o with
  | ok v h' => exact fun u β2 H2 y s r => p u β2 H2 (x.trans y) s r
  | exc x' h' => exact fun c d β2 H2 y s r => p c d β2 H2 (x.trans y) s r
  | bad => exact p
theorem Psts.mono {o : Out (List Val)} {Q : List V → Hp → Prop} (x : Ext β H β' H') (p : Psts L β H o Q E) : Psts L β' H' o Q E := by
  cases o with
  | ok v h' => exact fun u β2 H2 y s r => p u β2 H2 (x.trans y) s r
  | exc x' h' => exact fun c d β2 H2 y s r => p c d β2 H2 (x.trans y) s r
  | bad => exact p
/-- from a whole to its first part -/
theorem Pst.first {f : Val → Heap → Out Val} (p : Pst L β H (o.bind f) Q E)
    (k : ∀ v h1 u β1 H1, o = .ok v h1 → Ext β H β1 H1 → Sim L β1 H1 h1 → VR L β1 H1 u v → Pst L β1 H1 (f v h1) Q E → Q' u H1) : Pst L β H o Q' E := by
  cases o with
  | ok v h' => exact fun u β1 H1 x s r => k v h' u β1 H1 rfl x s r (Pst.mono x p)
  | exc x h' => exact p
  | bad => exact p
theorem Psts.first {f : Val → Heap → Out (List Val)} {Q : List V → Hp → Prop} (p : Psts L β H (o.bind f) Q E)
    (k : ∀ v h1 u β1 H1, o = .ok v h1 → Ext β H β1 H1 → Sim L β1 H1 h1 → VR L β1 H1 u v → Psts L β1 H1 (f v h1) Q E → Q' u H1) : Pst L β H o Q' E := by
  cases o with
  | ok v h' => exact fun u β1 H1 x s r => k v h' u β1 H1 rfl x s r (Psts.mono x p)
  | exc x h' => exact p
  | bad => exact p
theorem Pst.firsts {o : Out (List Val)} {f : List Val → Heap → Out Val} {Q' : List V → Hp → Prop} (p : Pst L β H (o.bind f) Q E)
    (k : ∀ v h1 u β1 H1, o = .ok v h1 → Ext β H β1 H1 → Sim L β1 H1 h1 → VRs L β1 H1 u v → Pst L β1 H1 (f v h1) Q E → Q' u H1) : Psts L β H o Q' E := by
  cases o with
  | ok v h' => exact fun u β1 H1 x s r => k v h' u β1 H1 rfl x s r (Pst.mono x p)
  | exc x h' => exact p
  | bad => exact p
theorem Psts.firsts {o : Out (List Val)} {f : List Val → Heap → Out (List Val)} {Q Q' : List V → Hp → Prop} (p : Psts L β H (o.bind f) Q E)
    (k : ∀ v h1 u β1 H1, o = .ok v h1 → Ext β H β1 H1 → Sim L β1 H1 h1 → VRs L β1 H1 u v → Psts L β1 H1 (f v h1) Q E → Q' u H1) : Psts L β H o Q' E := by
  cases o with
  | ok v h' => exact fun u β1 H1 x s r => k v h' u β1 H1 rfl x s r (Psts.mono x p)
  | exc x h' => exact p
  | bad => exact p
end

/-! ### the readings that MP gives -/
def tI (L : Lk) (F : Fns) (W : WX) (e : E) : TE := fun σ H Q => ∃ (β : Bt) (h : Heap) (ρ : Env), Sim L β H h ∧ ER L β H σ ρ ∧ Pst L β H (evE L.T F e ρ h) Q fun c d H' => W c d σ H'
def tIs (L : Lk) (F : Fns) (W : WX) (es : List E) : TA := fun σ H Q => ∃ (β : Bt) (h : Heap) (ρ : Env), Sim L β H h ∧ ER L β H σ ρ ∧ Psts L β H (evEs L.T F es ρ h) Q fun c d H' => W c d σ H'
/-- the same as a test -/
def tT (L : Lk) (F : Fns) (W : WX) (e : E) : TT := fun σ H Q => ∃ (β : Bt) (h : Heap) (ρ : Env), Sim L β H h ∧ ER L β H σ ρ ∧
  match evE L.T F e ρ h with
  | .ok v h' => ∃ b, truthy h' v = some b ∧ ∀ β' H', Ext β H β' H' → Sim L β' H' h' → Q b H'
  | .exc x h' => ∀ cls d β' H', Ext β H β' H' → Sim L β' H' h' → ExR L H' cls d x → W cls d σ H'
  | .bad => False

/-- the rule is chosen where it is asked -/
theorem pwE {X : Cx} {e : Expr} {t : TE} (k : ∀ pins s σ H Q, Inv X pins σ H s → t σ H Q → ∃ t', PE X e t' ∧ t' σ H Q) : PE X e t :=
  ⟨fun pins s σ H Q I q => by obtain ⟨t', p, q'⟩ := k pins s σ H Q I q; exact p.run pins s σ H Q I q'⟩
theorem pwT {X : Cx} {e : Expr} {t : TT} (k : ∀ pins s σ H Q, Inv X pins σ H s → t σ H Q → ∃ t', PT X e t' ∧ t' σ H Q) : PT X e t :=
  ⟨fun pins s σ H Q I q => by obtain ⟨t', p, q'⟩ := k pins s σ H Q I q; exact p.run pins s σ H Q I q'⟩
theorem pwA {X : Cx} {es : List Expr} {t : TA} (k : ∀ pins s σ H Q, Inv X pins σ H s → t σ H Q → ∃ t', PA X es t' ∧ t' σ H Q) : PA X es t :=
  ⟨fun pos pins s σ H Q I q => by obtain ⟨t', p, q'⟩ := k pins s σ H Q I q; exact p.run pos pins s σ H Q I q'⟩
theorem pwS {X : Cx} {st : Stmt} {t : TS} (k : ∀ pins s σ H D, Inv X pins σ H s → t D σ H → ∃ t', PS X st t' ∧ t' D σ H) : PS X st t :=
  ⟨fun pins s σ H D I q => by obtain ⟨t', p, q'⟩ := k pins s σ H D I q; exact p.run pins s σ H D I q'⟩
theorem pwSs {X : Cx} {st : List Stmt} {t : TS} (k : ∀ pins s σ H D, Inv X pins σ H s → t D σ H → ∃ t', PSs X st t' ∧ t' D σ H) : PSs X st t :=
  ⟨fun pins s σ H D I q => by obtain ⟨t', p, q'⟩ := k pins s σ H D I q; exact p.run pins s σ H D I q'⟩
theorem pwO {X : Cx} {f : Value → Value → Sem Value} {r : R2} (k : ∀ pins s σ H x y Q, Inv X pins σ H s → r x y H Q → ∃ r', OpR X f r' ∧ r' x y H Q) : OpR X f r := by
  intro pins s σ H x y v u Q I rx ry q
  obtain ⟨r', p, q'⟩ := k pins s σ H x y Q I q
  exact p pins s σ H x y v u Q I rx ry q'

section
variable {L : Lk} {F : Fns} {W : WX} {β : Bt} {H : Hp} {h : Heap} {σ : L2.St} {ρ : Env}
theorem tI_of {e : E} {Q : VK} (S : Sim L β H h) (R : ER L β H σ ρ) (p : Pst L β H (evE L.T F e ρ h) Q fun c d H' => W c d σ H') : tI L F W e σ H Q := ⟨β, h, ρ, S, R, p⟩
theorem tIs_of {es : List E} {Q : List V → Hp → Prop} (S : Sim L β H h) (R : ER L β H σ ρ) (p : Psts L β H (evEs L.T F es ρ h) Q fun c d H' => W c d σ H') : tIs L F W es σ H Q := ⟨β, h, ρ, S, R, p⟩
end
end MP

/-! Mp1b: operators and comparisons by values -/
namespace MP
open PySem PySem.Spec PyProof.Rows L2

mutual
def toP : D → PyData
  | .non => .none
  | .bl b => .bool b
  | .int i => .int i
  | .str s => .str ⟨s.toArray⟩
  | .lst xs => .list (toPs xs)
  | .tup xs => .tuple (toPs xs)
def toPs : List D → List PyData
  | [] => []
  | x :: xs => toP x :: toPs xs
end
theorem str_beq (x y : List Nat) : ((⟨x.toArray⟩ : PySem.Str) == ⟨y.toArray⟩) = (x == y) := by
  by_cases e : x = y
  · subst e; simp
  · have : (⟨x.toArray⟩ : PySem.Str) ≠ ⟨y.toArray⟩ := fun q => e (by simpa using q)
    rw [beq_eq_false_iff_ne.mpr this, beq_eq_false_iff_ne.mpr e]
mutual
theorem eqv_toP : ∀ d e : D, PyData.eqv (toP d) (toP e) = D.eqv d e
  | .non, e => by cases e <;> simp [toP, PyData.eqv, D.eqv]
  | .bl a, e => by cases e <;> simp [toP, PyData.eqv, D.eqv]
  | .int a, e => by cases e <;> simp [toP, PyData.eqv, D.eqv]
  | .str a, e => by
    cases e with
    | str b => simp only [toP, PyData.eqv, D.eqv]; exact str_beq a b
    | _ => simp [toP, PyData.eqv, D.eqv]
  | .lst xs, e => by
    cases e with
    | lst ys => simp only [toP, PyData.eqv, D.eqv]; exact eqvs_toPs xs ys
    | _ => simp [toP, PyData.eqv, D.eqv]
  | .tup xs, e => by
    cases e with
    | tup ys => simp only [toP, PyData.eqv, D.eqv]; exact eqvs_toPs xs ys
    | _ => simp [toP, PyData.eqv, D.eqv]
theorem eqvs_toPs : ∀ xs ys : List D, PyData.eqvAll (toPs xs) (toPs ys) = D.eqvs xs ys
  | [], ys => by cases ys <;> simp [toPs, PyData.eqvAll, D.eqvs]
  | x :: xs, ys => by
    cases ys with
    | nil => simp [toPs, PyData.eqvAll, D.eqvs]
    | cons y ys => simp only [toPs, PyData.eqvAll, D.eqvs]; rw [eqv_toP x y, eqvs_toPs xs ys]
end
theorem any_toPs (d : D) : ∀ xs : List D, ((toPs xs).any fun z => PyData.eqv z (toP d)) = xs.any fun z => z.eqv d
  | [] => rfl
  | x :: xs => by simp only [toPs, List.any_cons, eqv_toP, any_toPs d xs]

section
variable {L : Lk} {β : Bt} {H : Hp} {h : Heap}
theorem mapO_toD (n : Nat) (ih : ∀ v a d, toD h n a = some d → VR L β H v a → Dp L.K H v (toP d) ∧ PyData.canLay0 (toP d) = true ∧ PyData.depth (toP d) ≤ n) :
    ∀ (as : List Val) (vs : List V) (ds : List D), mapO (toD h n) as = some ds → VRs L β H vs as → DpAll L.K H vs (toPs ds) ∧ PyData.canLayAll0 (toPs ds) = true ∧ PyData.depthAll (toPs ds) ≤ n
  | [], _, ds, e, .nil => by
    simp only [mapO] at e
    cases e
    exact ⟨.nil, by simp [toPs, PyData.canLayAll0], by simp [toPs, PyData.depthAll]⟩
  | a :: as, _, ds, e, .cons r t => by
    simp only [mapO] at e
    split at e
    · rename_i b bs e1 e2
      cases e
      obtain ⟨h1, h2, h3⟩ := ih _ _ _ e1 r
      obtain ⟨k1, k2, k3⟩ := mapO_toD n ih as _ _ e2 t
      refine ⟨.cons h1 k1, by simp [toPs, PyData.canLayAll0, h2, k2], ?_⟩
      simp only [toPs, PyData.depthAll]
      omega
    · cases e
theorem toD_ok (S : Sim L β H h) : ∀ (n : Nat) (v : V) (a : Val) (d : D), toD h n a = some d → VR L β H v a → Dp L.K H v (toP d) ∧ PyData.canLay0 (toP d) = true ∧ PyData.depth (toP d) ≤ n
  | 0, _, _, _, e, _ => by simp [toD] at e
  | n + 1, v, a, d, e, r => by
    have lists : ∀ (as : List Val) (vs : List V) (ds : List D), mapO (toD h n) as = some ds → VRs L β H vs as → DpAll L.K H vs (toPs ds) ∧ PyData.canLayAll0 (toPs ds) = true ∧ PyData.depthAll (toPs ds) ≤ n := fun as vs ds q t => mapO_toD n (toD_ok S n) as vs ds q t
    cases r with
    | non => simp only [toD] at e; cases e; exact ⟨.non, by simp [toP, PyData.canLay0], by simp [toP, PyData.depth]⟩
    | bl b => simp only [toD] at e; cases e; exact ⟨.bl b, by simp [toP, PyData.canLay0], by simp [toP, PyData.depth]⟩
    | int i => simp only [toD] at e; cases e; exact ⟨.int i, by simp [toP, PyData.canLay0], by simp [toP, PyData.depth]⟩
    | str s =>
      simp only [toD] at e
      split at e
      · rename_i q
        cases e
        refine ⟨.str _, ?_, by simp [toP, PyData.depth]⟩
        simp only [toP, PyData.canLay0]
        show (s.toArray.all fun c => decide (c < 0x110000)) = true
        rw [List.all_toArray]
        exact q
      · cases e
    | tup hs rs =>
      rename_i xs
      simp only [toD] at e
      cases q : mapO (toD h n) xs with
      | none => rw [q] at e; cases e
      | some ds =>
        rw [q] at e
        cases e
        obtain ⟨a1, a2, a3⟩ := lists _ _ _ q rs
        exact ⟨by simp only [toP]; exact .tup hs a1, by simp only [toP, PyData.canLay0]; exact a2, by simp only [toP, PyData.depth]; omega⟩
    | @lst a1 vs1 xs hs hn1 rs =>
      simp only [toD] at e
      cases q : mapO (toD h n) xs with
      | none => rw [q] at e; cases e
      | some ds =>
        rw [q] at e
        cases e
        obtain ⟨a1, a2, a3⟩ := lists _ _ _ q rs
        exact ⟨by simp only [toP]; exact .lst (SqL.of hs) a1, by simp only [toP, PyData.canLay0]; exact a2, by simp only [toP, PyData.depth]; omega⟩
    | arr _ _ => simp [toD] at e
    | ref hb =>
      rename_i r
      simp only [toD] at e
      cases q : h.c r with
      | none => rw [q] at e; cases e
      | some c =>
        rw [q] at e
        cases c with
        | lst xs =>
          obtain ⟨a', hb', vs, ha, rs⟩ := S.at q
          rw [hb] at hb'; cases hb'
          have e : (mapO (toD h n) xs).map D.lst = some d := e
          cases q2 : mapO (toD h n) xs with
          | none => rw [q2] at e; cases e
          | some ds =>
            rw [q2] at e
            cases e
            obtain ⟨a1, a2, a3⟩ := lists _ _ _ q2 rs
            exact ⟨by simp only [toP]; exact .lst (SqL.of ha) a1, by simp only [toP, PyData.canLay0]; exact a2, by simp only [toP, PyData.depth]; omega⟩
        | dic _ _ => cases e
        | ins _ _ => cases e
    | fn k => simp [toD] at e
theorem toD_shaped (S : Sim L β H h) {v : V} {a : Val} {d : D} (e : toD h 64 a = some d) (r : VR L β H v a) : Dp L.K H v (toP d) ∧ SeqAt.shaped (toP d) = true := by
  obtain ⟨a1, a2, a3⟩ := toD_ok S 64 v a d e r
  refine ⟨a1, ?_⟩
  show (PyData.canLay0 (toP d) && decide (PyData.depth (toP d) ≤ 64)) = true
  rw [a2, Bool.true_and]
  exact decide_eq_true (by omega)
theorem mapO_shaped (S : Sim L β H h) {vs : List V} {as : List Val} {ds : List D} (e : mapO (toD h 63) as = some ds) (r : VRs L β H vs as) : DpAll L.K H vs (toPs ds) ∧ PyData.canLayAll0 (toPs ds) = true ∧ PyData.depthAll (toPs ds) ≤ 63 := mapO_toD 63 (toD_ok S 63) as vs ds e r
end

/-! ### operators -/
def rOp (L : Lk) (o : Op) : R2 := fun x y H Q => ∃ (β : Bt) (h : Heap) (a b z : Val), Sim L β H h ∧ VR L β H x a ∧ VR L β H y b ∧ opV h o a b = some z ∧ ∀ u β' H', Ext β H β' H' → Sim L β' H' h → VR L β' H' u z → Q u H'
section
variable {X : Cx} {L : Lk}
theorem ite_some {α : Type} {c : Prop} [Decidable c] {a b : α} (e : (if c then some a else none) = some b) : c ∧ a = b := by
  split at e
  · exact ⟨by assumption, Option.some.inj e⟩
  · cases e
theorem sizeL : line = sizeLine := by rw [sizeLine_eq]; rfl
theorem str_app (s t : List Nat) : (⟨s.toArray⟩ : PySem.Str) ++ ⟨t.toArray⟩ = ⟨(s ++ t).toArray⟩ := by
  show PySem.Str.append _ _ = _
  simp [PySem.Str.append]
/-! #### results -/
theorem fin_tup {β : Bt} {H : Hp} {h : Heap} {vs : List V} {xs : List Val} {Q : VK} (S : Sim L β H h) (r : VRs L β H vs xs) (k : ∀ u β' H', Ext β H β' H' → Sim L β' H' h → VR L β' H' u (.tup xs) → Q u H') :
    ∀ p, H p = none → Q (.ref p) (upd H p (.tup vs)) := fun p e => k _ _ _ (Ext.laid S e) (S.laid e) (.tup (SqT.of upd_same) (r.mono S (Ext.laid S e)))
theorem fin_lst {β : Bt} {H : Hp} {h : Heap} {vs : List V} {xs : List Val} {Q : VK} (S : Sim L β H h) (r : VRs L β H vs xs) (k : ∀ u β' H', Ext β H β' H' → Sim L β' H' h → VR L β' H' u (.lst xs) → Q u H') :
    ∀ p, H p = none → Q (.ref p) (upd H p (.lst vs)) := fun p e => k _ _ _ (Ext.laid S e) (S.laid e) (.lst upd_same (S.un e) (r.mono S (Ext.laid S e)))
theorem fin_new {β : Bt} {H : Hp} {h : Heap} {vs : List V} {xs : List Val} {Q : VK} (S : Sim L β H h) (r : VRs L β H vs xs) (k : ∀ u β' H', Ext β H β' H' → Sim L β' H' (h.push (.lst xs)) → VR L β' H' u (.ref h.n) → Q u H') :
    ∀ p, H p = none → Q (.ref p) (upd H p (.lst vs)) := fun p e => k _ _ _ (Ext.bound S e) (S.push e ⟨vs, upd_same, r.mono S (Ext.bound S e)⟩) (.ref bnd_same)

/-! #### arithmetic -/
variable (X L)
theorem o_add (hK : X.K = L.K) : OpR X (binaryOp .Add) (rOp L .add) := by
  refine pwO fun pins s σ H x y Q I q => ?_
  obtain ⟨β, h, a, b, z, S, ra, rb, e, k⟩ := q
  unfold opV at e
  simp only at e
  split at e
  · cases ra; cases rb; cases e
    exact ⟨_, op_add, _, _, rfl, rfl, k _ _ _ .refl S (.int _)⟩
  · obtain ⟨hl, rfl⟩ := ite_some e
    cases ra; cases rb
    refine ⟨_, op_add_str, _, _, rfl, rfl, ?_, ?_⟩
    · show List.length _ + List.length _ ≤ sizeLine
      rw [← sizeL]; exact hl
    · rw [str_app]
      exact k _ _ _ .refl S (.str _)
  · obtain ⟨hl, rfl⟩ := ite_some e
    cases ra with
    | tup ha rxs =>
      cases rb with
      | tup hb rys =>
        rw [← hK] at ha hb
        refine ⟨_, op_catA, _, _, _, _, rfl, rfl, ha, hb, ?_, fun z => ?_, fun _ z => ?_, fun _ _ => fin_tup S (rxs.append rys) k⟩
        · rw [← sizeL, rxs.length, rys.length]; exact hl
        · subst z
          cases rxs
          exact k _ _ _ .refl S (.tup (hK ▸ hb) rys)
        · subst z
          cases rys
          rw [List.append_nil] at k
          exact k _ _ _ .refl S (.tup (hK ▸ ha) rxs)
  · obtain ⟨hl, rfl⟩ := ite_some e
    cases ra with
    | lst ha na rxs =>
      cases rb with
      | lst hb nb rys =>
        exact ⟨_, op_cat, _, _, _, _, rfl, rfl, ha, hb, by rw [← sizeL, rxs.length, rys.length]; exact hl, fin_lst S (rxs.append rys) k⟩
  · split at e
    · rename_i q
      obtain ⟨hl, rfl⟩ := ite_some e
      cases ra with
      | lst ha na rxs =>
        cases rb with
        | ref hb =>
          obtain ⟨a', hb', vs, hv, rys⟩ := S.at q
          rw [hb] at hb'; cases hb'
          exact ⟨_, op_cat, _, _, _, _, rfl, rfl, ha, hv, by rw [← sizeL, rxs.length, rys.length]; exact hl, fin_lst S (rxs.append rys) k⟩
    · cases e
  · split at e
    · rename_i q
      obtain ⟨hl, rfl⟩ := ite_some e
      cases rb with
      | lst hb nb rys =>
        cases ra with
        | ref ha =>
          obtain ⟨a', ha', vs, hv, rxs⟩ := S.at q
          rw [ha] at ha'; cases ha'
          exact ⟨_, op_cat, _, _, _, _, rfl, rfl, hv, hb, by rw [← sizeL, rxs.length, rys.length]; exact hl, fin_lst S (rxs.append rys) k⟩
    · cases e
  · cases e
theorem o_sub : OpR X (binaryOp .Sub) (rOp L .sub) := by
  refine pwO fun pins s σ H x y Q I q => ?_
  obtain ⟨β, h, a, b, z, S, ra, rb, e, k⟩ := q
  unfold opV at e
  simp only at e
  split at e
  · cases ra; cases rb; cases e
    exact ⟨_, op_sub, _, _, rfl, rfl, k _ _ _ .refl S (.int _)⟩
  · cases e
theorem rep_one (c : Nat) : ∀ (n : Nat) (a : Array Nat), (List.replicate n (#[c] : Array Nat)).foldl (· ++ ·) a = a ++ (List.replicate n c).toArray
  | 0, a => by simp
  | n + 1, a => by
    rw [List.replicate_succ, List.foldl_cons, rep_one c n, List.replicate_succ]
    apply Array.ext'
    simp
theorem txt_mul (c : Nat) {n : Int} (h0 : 0 ≤ n) : Txt.mul ⟨#[c]⟩ n = ⟨(List.replicate n.toNat c).toArray⟩ := by
  unfold Txt.mul
  split
  · have : n = 0 := by omega
    subst this
    rfl
  · split
    · rename_i h1 h2
      have : n = 1 := by simpa [PySem.Str.length] using h2
      subst this
      rfl
    · rw [rep_one]
      simp
theorem mul_ok (c : Nat) {n : Int} (h0 : 0 ≤ n) (h1 : n ≤ 1000) : MulOk ⟨#[c]⟩ n := by
  refine ⟨?_, fun h _ => ?_, fun _ _ => ?_⟩
  · rw [decide_eq_false (by omega), decide_eq_false (by omega)]; rfl
  · have hn : 1 ≤ n := by omega
    have : (1 : Int) ≤ (2 ^ 63 - 1) / n := (Int.le_ediv_iff_mul_le (by omega)).mpr (by omega)
    show ¬ ((1 : Int) > _)
    omega
  · unfold PySem.Builtin.Str.tooLong
    show decide _ = false
    refine decide_eq_false ?_
    show ¬ (1 * n.toNat > sizeLine)
    rw [sizeLine_eq]
    omega
theorem op_muls : OpR X (binaryOp .Mult) (fun x y H Q => ∃ c n, x = .str ⟨#[c]⟩ ∧ y = .int n ∧ 0 ≤ n ∧ n ≤ 1000 ∧ Q (.str ⟨(List.replicate n.toNat c).toArray⟩) H) := by
  intro pins s σ H x y v u Q I rx ry ⟨c, n, ex, ey, h0, h1, q⟩
  subst ex ey
  obtain ⟨t, rfl⟩ := rx
  obtain ⟨t', rfl⟩ := ry
  refine PySem.SB.mul (mul_ok c h0 h1) fun t2 k => ?_
  rw [txt_mul c h0]
  exact ⟨.str _, H, I.tok k, ⟨t2, rfl⟩, q⟩
theorem o_mul : OpR X (binaryOp .Mult) (rOp L .mul) := by
  refine pwO fun pins s σ H x y Q I q => ?_
  obtain ⟨β, h, a, b, z, S, ra, rb, e, k⟩ := q
  unfold opV at e
  simp only at e
  split at e
  · obtain ⟨hl, rfl⟩ := ite_some e
    cases ra; cases rb
    exact ⟨_, op_mul, _, _, rfl, rfl, hl, k _ _ _ .refl S (.int _)⟩
  · obtain ⟨hl, rfl⟩ := ite_some e
    cases ra; cases rb
    exact ⟨_, op_muls X, _, _, rfl, rfl, hl.1, hl.2, k _ _ _ .refl S (.str _)⟩
  · cases e
theorem o_fdiv : OpR X (binaryOp .FloorDiv) (rOp L .fdiv) := by
  refine pwO fun pins s σ H x y Q I q => ?_
  obtain ⟨β, h, a, b, z, S, ra, rb, e, k⟩ := q
  unfold opV at e
  simp only at e
  split at e
  · obtain ⟨hl, rfl⟩ := ite_some e
    cases ra; cases rb
    exact ⟨_, op_fdivN, _, _, rfl, rfl, hl, k _ _ _ .refl S (.int _)⟩
  · cases e
theorem o_mod : OpR X (binaryOp .Mod) (rOp L .mod) := by
  refine pwO fun pins s σ H x y Q I q => ?_
  obtain ⟨β, h, a, b, z, S, ra, rb, e, k⟩ := q
  unfold opV at e
  simp only at e
  split at e
  · obtain ⟨hl, rfl⟩ := ite_some e
    cases ra; cases rb
    exact ⟨_, op_modN, _, _, rfl, rfl, hl, k _ _ _ .refl S (.int _)⟩
  · cases e
theorem o_pow : OpR X (binaryOp .Pow) (rOp L .pow) := by
  refine pwO fun pins s σ H x y Q I q => ?_
  obtain ⟨β, h, a, b, z, S, ra, rb, e, k⟩ := q
  unfold opV at e
  simp only at e
  split at e
  · obtain ⟨hl, rfl⟩ := ite_some e
    cases ra; cases rb
    exact ⟨_, op_pow, _, _, rfl, rfl, hl, k _ _ _ .refl S (.int _)⟩
  · cases e

/-! #### order -/
theorem o_lt : OpR X (compareOp .Lt) (rOp L .lt) := by
  refine pwO fun pins s σ H x y Q I q => ?_
  obtain ⟨β, h, a, b, z, S, ra, rb, e, k⟩ := q
  unfold opV at e
  simp only at e
  split at e
  · cases ra; cases rb; cases e
    exact ⟨_, op_lt, _, _, rfl, rfl, k _ _ _ .refl S (.bl _)⟩
  · cases e
theorem o_le : OpR X (compareOp .LtE) (rOp L .le) := by
  refine pwO fun pins s σ H x y Q I q => ?_
  obtain ⟨β, h, a, b, z, S, ra, rb, e, k⟩ := q
  unfold opV at e
  simp only at e
  split at e
  · cases ra; cases rb; cases e
    exact ⟨_, op_le, _, _, rfl, rfl, k _ _ _ .refl S (.bl _)⟩
  · cases e
theorem o_gt : OpR X (compareOp .Gt) (rOp L .gt) := by
  refine pwO fun pins s σ H x y Q I q => ?_
  obtain ⟨β, h, a, b, z, S, ra, rb, e, k⟩ := q
  unfold opV at e
  simp only at e
  split at e
  · cases ra; cases rb; cases e
    exact ⟨_, op_gt, _, _, rfl, rfl, k _ _ _ .refl S (.bl _)⟩
  · cases e
theorem o_ge : OpR X (compareOp .GtE) (rOp L .ge) := by
  refine pwO fun pins s σ H x y Q I q => ?_
  obtain ⟨β, h, a, b, z, S, ra, rb, e, k⟩ := q
  unfold opV at e
  simp only at e
  split at e
  · cases ra; cases rb; cases e
    exact ⟨_, op_ge, _, _, rfl, rfl, k _ _ _ .refl S (.bl _)⟩
  · cases e

/-! #### equality -/
theorem o_eq (hK : X.K = L.K) (hu : X.A.units + 200 < cLine) : OpR X (compareOp .Eq) (rOp L .eq) := by
  refine pwO fun pins s σ H x y Q I q => ?_
  obtain ⟨β, h, a, b, z, S, ra, rb, e, k⟩ := q
  unfold opV eqVal at e
  simp only at e
  split at e
  · rename_i d d' e1 e2
    cases e
    obtain ⟨a1, a2⟩ := toD_shaped S e1 ra
    obtain ⟨b1, b2⟩ := toD_shaped S e2 rb
    rw [← hK] at a1 b1
    refine ⟨_, op_eqD (by omega), _, _, a1, b1, a2, b2, ?_⟩
    rw [eqv_toP]
    exact k _ _ _ .refl S (.bl _)
  · cases e
theorem o_ne (hK : X.K = L.K) (hu : X.A.units + 200 < cLine) : OpR X (compareOp .NotEq) (rOp L .ne) := by
  refine pwO fun pins s σ H x y Q I q => ?_
  obtain ⟨β, h, a, b, z, S, ra, rb, e, k⟩ := q
  unfold opV eqVal at e
  simp only at e
  split at e
  · rename_i d d' e1 e2
    cases e
    obtain ⟨a1, a2⟩ := toD_shaped S e1 ra
    obtain ⟨b1, b2⟩ := toD_shaped S e2 rb
    rw [← hK] at a1 b1
    refine ⟨_, op_neD (by omega), _, _, a1, b1, a2, b2, ?_⟩
    rw [eqv_toP]
    exact k _ _ _ .refl S (.bl _)
  · cases e

/-! #### is -/
theorem op_isFl : OpR X (compareOp .Is) (fun x y H Q => ∃ b, y = .bl b ∧ (∀ c, x ≠ .bl c) ∧ (∀ a, x ≠ .ref a) ∧ (∀ n, x ≠ .ty n) ∧ Q (.bl false) H) := by
  intro pins s σ H x y v u Q I rx ry h
  obtain ⟨b, rfl, n1, n2, n3, q⟩ := h
  cases (show u = Value.bool b from ry)
  have fin : EP X pins σ Q (.bool false) s := ⟨.bl false, H, I, rfl, q⟩
  cases x with
  | non => cases rx; exact wpAny_is_other rfl (by intro z; cases z) fin
  | bl c => exact absurd rfl (n1 c)
  | int i => obtain ⟨t, rfl⟩ := rx; exact wpAny_is_other rfl (by intro z; cases z) fin
  | str i => obtain ⟨t, rfl⟩ := rx; exact wpAny_is_other rfl (by intro z; cases z) fin
  | byt i => obtain ⟨t, rfl⟩ := rx; exact wpAny_is_other rfl (by intro z; cases z) fin
  | flt i => obtain ⟨t, rfl⟩ := rx; exact wpAny_is_other rfl (by intro z; cases z) fin
  | ref a => exact absurd rfl (n2 a)
  | ty n => exact absurd rfl (n3 n)
theorem op_isnotFl : OpR X (compareOp .IsNot) (fun x y H Q => ∃ b, y = .bl b ∧ (∀ c, x ≠ .bl c) ∧ (∀ a, x ≠ .ref a) ∧ (∀ n, x ≠ .ty n) ∧ Q (.bl true) H) := by
  intro pins s σ H x y v u Q I rx ry h
  obtain ⟨b, rfl, n1, n2, n3, q⟩ := h
  cases (show u = Value.bool b from ry)
  have fin : EP X pins σ Q (.bool true) s := ⟨.bl true, H, I, rfl, q⟩
  cases x with
  | non => cases rx; exact wpAny_isNot_other rfl (by intro z; cases z) fin
  | bl c => exact absurd rfl (n1 c)
  | int i => obtain ⟨t, rfl⟩ := rx; exact wpAny_isNot_other rfl (by intro z; cases z) fin
  | str i => obtain ⟨t, rfl⟩ := rx; exact wpAny_isNot_other rfl (by intro z; cases z) fin
  | byt i => obtain ⟨t, rfl⟩ := rx; exact wpAny_isNot_other rfl (by intro z; cases z) fin
  | flt i => obtain ⟨t, rfl⟩ := rx; exact wpAny_isNot_other rfl (by intro z; cases z) fin
  | ref a => exact absurd rfl (n2 a)
  | ty n => exact absurd rfl (n3 n)
theorem VR.isNon {L : Lk} {β : Bt} {H : Hp} {x : V} {a : Val} (r : VR L β H x a) : decide (x = .non) = (match a with | .non => true | _ => false) := by
  cases r <;> simp
theorem o_is : OpR X (compareOp .Is) (rOp L .is) := by
  refine pwO fun pins s σ H x y Q I q => ?_
  obtain ⟨β, h, a, b, z, S, ra, rb, e, k⟩ := q
  unfold opV isVal at e
  simp only at e
  split at e
  · cases rb
    refine ⟨_, op_isN, rfl, ?_⟩
    split at e
    · cases e; cases ra; exact k _ _ _ .refl S (.bl _)
    · rename_i hn
      cases e
      have : decide (x = .non) = false := by
        rw [ra.isNon]
        split
        · exact absurd rfl hn
        · rfl
      rw [this]
      exact k _ _ _ .refl S (.bl _)
  · rename_i bb
    cases rb
    split at e
    · rename_i aa
      cases e; cases ra
      refine ⟨_, op_isBl, _, _, rfl, rfl, ?_⟩
      have : decide (aa = bb) = (aa == bb) := by cases aa <;> cases bb <;> rfl
      rw [this]
      exact k _ _ _ .refl S (.bl _)
    · cases e; cases ra
      exact ⟨_, op_isFl X, _, rfl, (by intro c z; cases z), (by intro c z; cases z), (by intro c z; cases z), k _ _ _ .refl S (.bl _)⟩
    · cases e; cases ra
      exact ⟨_, op_isFl X, _, rfl, (by intro c z; cases z), (by intro c z; cases z), (by intro c z; cases z), k _ _ _ .refl S (.bl _)⟩
    · cases e; cases ra
      exact ⟨_, op_isFl X, _, rfl, (by intro c z; cases z), (by intro c z; cases z), (by intro c z; cases z), k _ _ _ .refl S (.bl _)⟩
    · cases e
  · cases e
theorem o_isnot : OpR X (compareOp .IsNot) (rOp L .isnot) := by
  refine pwO fun pins s σ H x y Q I q => ?_
  obtain ⟨β, h, a, b, z, S, ra, rb, e, k⟩ := q
  unfold opV isVal at e
  simp only at e
  split at e
  · cases rb
    refine ⟨_, op_notN, rfl, ?_⟩
    split at e
    · cases e; cases ra; exact k _ _ _ .refl S (.bl _)
    · rename_i hn
      cases e
      have : decide (x = .non) = false := by
        rw [ra.isNon]
        split
        · exact absurd rfl hn
        · rfl
      rw [this]
      exact k _ _ _ .refl S (.bl _)
  · rename_i bb
    cases rb
    split at e
    · rename_i aa
      cases e; cases ra
      refine ⟨_, op_notBl, _, _, rfl, rfl, ?_⟩
      have : decide (aa = bb) = (aa == bb) := by cases aa <;> cases bb <;> rfl
      rw [this]
      exact k _ _ _ .refl S (.bl _)
    · cases e; cases ra
      exact ⟨_, op_isnotFl X, _, rfl, (by intro c z; cases z), (by intro c z; cases z), (by intro c z; cases z), k _ _ _ .refl S (.bl _)⟩
    · cases e; cases ra
      exact ⟨_, op_isnotFl X, _, rfl, (by intro c z; cases z), (by intro c z; cases z), (by intro c z; cases z), k _ _ _ .refl S (.bl _)⟩
    · cases e; cases ra
      exact ⟨_, op_isnotFl X, _, rfl, (by intro c z; cases z), (by intro c z; cases z), (by intro c z; cases z), k _ _ _ .refl S (.bl _)⟩
    · cases e
  · cases e

/-! #### in -/
theorem op_inDic (hu : X.A.units + 200 < cLine) : OpR X (compareOp .In) (fun y x H Q => ∃ a o, x = .ref a ∧ DGet H a y o ∧ Q (.bl o.isSome) H) := by
  intro pins s σ H x y v u Q I rx ry h
  obtain ⟨a, o, rfl, g, q⟩ := h
  cases ry
  exact d_in (by omega) I g rx fun s' I' => ⟨.bl _, H, I', rfl, q⟩
theorem op_notinDic (hu : X.A.units + 200 < cLine) : OpR X (compareOp .NotIn) (fun y x H Q => ∃ a o, x = .ref a ∧ DGet H a y o ∧ Q (.bl (!o.isSome)) H) := by
  intro pins s σ H x y v u Q I rx ry h
  obtain ⟨a, o, rfl, g, q⟩ := h
  cases ry
  exact d_notIn (by omega) I g rx fun s' I' => ⟨.bl _, H, I', rfl, q⟩
/-- in of data: a list, a tuple -/
def rInDT (K : PySem.W.Frag) (neg : Bool) : R2 := fun x y H Q => ∃ d ds, Dp K H x d ∧ (Dp K H y (.list ds) ∨ Dp K H y (.tuple ds)) ∧ SeqAt.shaped d = true ∧ PyData.canLayAll0 ds = true ∧ Q (.bl (if neg then !(ds.any fun z => PyData.eqv z d) else ds.any fun z => PyData.eqv z d)) H
theorem op_inDT (hu : X.A.units + 200 < cLine) : OpR X (compareOp .In) (rInDT X.K false) := by
  intro pins s σ H x y v u Q I rx ry h
  obtain ⟨d, ds, hd, he, sd, se, q⟩ := h
  obtain ⟨as, r1⟩ := Dp.reads I d x v hd rx
  rcases he with he | he
  · obtain ⟨bs, r2⟩ := Dp.reads I _ y u he ry
    exact SeqAt.in_list_reads r2 r1 se (SeqAt.canLay_of_shaped sd) (PyProof.Rows.room_in_shaped sd (by omega)) ⟨.bl _, H, I, rfl, q⟩
  · obtain ⟨bs, r2⟩ := Dp.reads I _ y u he ry
    exact SeqAt.in_tuple_reads r2 r1 se (SeqAt.canLay_of_shaped sd) (PyProof.Rows.room_in_shaped sd (by omega)) ⟨.bl _, H, I, rfl, q⟩
theorem op_notInDT (hu : X.A.units + 200 < cLine) : OpR X (compareOp .NotIn) (rInDT X.K true) := by
  intro pins s σ H x y v u Q I rx ry h
  obtain ⟨d, ds, hd, he, sd, se, q⟩ := h
  obtain ⟨as, r1⟩ := Dp.reads I d x v hd rx
  rcases he with he | he
  · obtain ⟨bs, r2⟩ := Dp.reads I _ y u he ry
    exact SeqAt.notIn_list_reads r2 r1 se (SeqAt.canLay_of_shaped sd) (PyProof.Rows.room_in_shaped sd (by omega)) ⟨.bl _, H, I, rfl, q⟩
  · obtain ⟨bs, r2⟩ := Dp.reads I _ y u he ry
    exact SeqAt.notIn_tuple_reads r2 r1 se (SeqAt.canLay_of_shaped sd) (PyProof.Rows.room_in_shaped sd (by omega)) ⟨.bl _, H, I, rfl, q⟩
end

/-! #### dicts' keys -/
theorem kOf_is {a : Val} (e : isKey a = true) : ∃ k, kOf a = some k := by
  cases a <;> first | exact ⟨_, rfl⟩ | (simp [isKey] at e)
theorem kOf_V {L : Lk} {β : Bt} {H : Hp} {v : V} {a : Val} {k : Key} (r : VR L β H v a) (e : kOf a = some k) : v = kV k := by
  cases a with
  | int i => cases r; cases e; rfl
  | str s => cases r; cases e; rfl
  | _ => cases e
theorem kOf_eq {a b : Val} {j k : Key} (ea : kOf a = some j) (eb : kOf b = some k) : keyEq a b = decide (j = k) := by
  cases a with
  | int i =>
    cases ea
    cases b with
    | int i' => cases eb; simp only [keyEq]; rw [key_ll]
    | str s' => cases eb; simp [keyEq]
    | _ => cases eb
  | str s =>
    cases ea
    cases b with
    | int i' => cases eb; simp [keyEq]
    | str s' =>
      cases eb
      simp only [keyEq]
      rw [key_rr]
      by_cases q : s = s'
      · subst q; simp
      · simp [q]
    | _ => cases eb
  | _ => cases ea
section
variable {L : Lk} {β : Bt} {H : Hp}
theorem KR.get : ∀ {ps : List (Key × V)} {qs : List (Val × Val)} {a : Val} {k : Key}, KR L β H ps qs → kOf a = some k →
    (∀ x, dGet qs a = some x → ∃ v, valV ps k = some v ∧ VR L β H v x) ∧ (dGet qs a = none → valV ps k = none)
  | _, _, a, k, .nil, _ => ⟨fun x e => by simp [dGet] at e, fun _ => rfl⟩
  | _, _, a, k, .cons (k := j) (v := v) (a := b) (x := x) eb r t, e => by
    have q := kOf_eq eb e
    obtain ⟨i1, i2⟩ := KR.get t e
    by_cases z : j = k
    · subst z
      rw [decide_eq_true rfl] at q
      simp only [dGet, q, if_true]
      rw [valV_pos rfl]
      exact ⟨fun y ey => by cases ey; exact ⟨v, rfl, r⟩, fun ey => by cases ey⟩
    · rw [decide_eq_false z] at q
      simp only [dGet, q]
      rw [valV_neg (show ¬ (j, v).1 = k from z)]
      exact ⟨i1, i2⟩
theorem KR.some_of {ps : List (Key × V)} {qs : List (Val × Val)} {a : Val} {k : Key} (r : KR L β H ps qs) (e : kOf a = some k) : (valV ps k).isSome = (dGet qs a).isSome := by
  obtain ⟨h1, h2⟩ := r.get e
  cases q : dGet qs a with
  | none => rw [h2 q]; rfl
  | some x => obtain ⟨v, ev, _⟩ := h1 x q; rw [ev]; rfl
theorem KR.length : ∀ {ps : List (Key × V)} {qs : List (Val × Val)}, KR L β H ps qs → ps.length = qs.length
  | _, _, .nil => rfl
  | _, _, .cons _ _ t => congrArg Nat.succ (KR.length t)
theorem KR.any {a : Val} {k : Key} (e : kOf a = some k) : ∀ {ps : List (Key × V)} {qs : List (Val × Val)}, KR L β H ps qs → (ps.any fun kv => decide (kv.1 = k)) = dHas qs a
  | _, _, .nil => rfl
  | _, _, .cons (k := j) (a := b) eb r t => by
    unfold dHas
    rw [List.any_cons, List.any_cons]
    show (decide (j = k) || _) = (keyEq b a || _)
    rw [kOf_eq eb e]
    exact congrArg _ (KR.any e t)
theorem KR.drop {a : Val} {k : Key} (e : kOf a = some k) : ∀ {ps : List (Key × V)} {qs : List (Val × Val)}, KR L β H ps qs → KR L β H (dropK ps k) (dDrop qs a)
  | _, _, .nil => .nil
  | _, _, .cons (k := j) (v := v) (a := b) (x := x) eb r t => by
    have i := KR.drop e t
    unfold dropK dDrop at i ⊢
    rw [List.filter_cons, List.filter_cons, kOf_eq eb e]
    by_cases z : j = k
    · subst z
      simpa using i
    · rw [if_pos (by simpa using z), if_pos (by simpa using z)]
      exact .cons eb r i
theorem KR.repl {a : Val} {k : Key} (e : kOf a = some k) {v : V} {x : Val} (r : VR L β H v x) : ∀ {ps : List (Key × V)} {qs : List (Val × Val)}, KR L β H ps qs →
    KR L β H (ps.map fun kv => if kv.1 = k then (kv.1, v) else kv) (qs.map fun p => if keyEq p.1 a = true then (p.1, x) else p)
  | _, _, .nil => .nil
  | _, _, .cons (k := j) eb r' t => by
    have i := KR.repl e r t
    rw [List.map_cons, List.map_cons]
    simp only [kOf_eq eb e]
    by_cases z : j = k
    · subst z
      simp only [if_true, decide_true]
      exact .cons eb r i
    · simp only [if_neg z, decide_eq_false z]
      exact .cons eb r' i
theorem KR.snoc {a : Val} {k : Key} (e : kOf a = some k) {v : V} {x : Val} (r : VR L β H v x) : ∀ {ps : List (Key × V)} {qs : List (Val × Val)}, KR L β H ps qs → KR L β H (ps ++ [(k, v)]) (qs ++ [(a, x)])
  | _, _, .nil => .cons e r .nil
  | _, _, .cons eb r' t => .cons eb r' (KR.snoc e r t)
theorem KR.put {ps : List (Key × V)} {qs : List (Val × Val)} {a : Val} {k : Key} (t : KR L β H ps qs) (e : kOf a = some k) {v : V} {x : Val} (r : VR L β H v x) : KR L β H (putK ps k v) (dPut qs a x) := by
  unfold putK dPut
  rw [t.any e]
  split
  · exact t.repl e r
  · exact t.snoc e r
end

/-- a dict's cell is read -/
theorem dic_rd {L : Lk} {β : Bt} {H : Hp} {h : Heap} (S : Sim L β H h) {a : Addr} {r : Nat} {kvs : List (Val × Val)} {lk : Bool} (e : β r = some a) (q : h.c r = some (.dic kvs lk)) : ∃ ps, Rd H a (.dK ps) ∧ KR L β H ps kvs := by
  obtain ⟨a', e', x⟩ := S.at q
  rw [e] at e'; cases e'
  cases lk with
  | false => obtain ⟨ps, hp, kr⟩ := x; exact ⟨ps, .inl hp, kr⟩
  | true => obtain ⟨ps, o, hp, kr⟩ := x; exact ⟨ps, .inr ⟨o, hp⟩, kr⟩
theorem dic_get {L : Lk} {β : Bt} {H : Hp} {h : Heap} (S : Sim L β H h) {a : Addr} {r : Nat} {kvs : List (Val × Val)} {lk : Bool} (e : β r = some a) (q : h.c r = some (.dic kvs lk)) {y : V} {b : Val} (rb : VR L β H y b) (hk : isKey b = true) :
    ∃ ps k, KR L β H ps kvs ∧ kOf b = some k ∧ DGet H a y (valV ps k) := by
  obtain ⟨ps, hp, kr⟩ := dic_rd S e q
  obtain ⟨k, ek⟩ := kOf_is hk
  exact ⟨ps, k, kr, ek, .inl ⟨ps, k, hp, kOf_V rb ek, rfl⟩⟩
theorem seq_of {L : Lk} {β : Bt} {H : Hp} {h : Heap} (S : Sim L β H h) {y : V} {b : Val} {ys : List Val} (rb : VR L β H y b) (e : seqOf h b = some ys) : ∃ a vs, y = .ref a ∧ VRs L β H vs ys ∧ (SqL L.K H a vs ∨ SqT L.K H a vs) := by
  cases rb with
  | tup hs rs => simp only [seqOf] at e; cases e; exact ⟨_, _, rfl, rs, .inr hs⟩
  | lst hs _ rs => simp only [seqOf] at e; cases e; exact ⟨_, _, rfl, rs, .inl (SqL.of hs)⟩
  | arr hs rs => simp only [seqOf] at e; cases e; exact ⟨_, _, rfl, rs, .inl hs.sql⟩
  | ref hb =>
    simp only [seqOf] at e
    split at e
    · rename_i q
      cases e
      obtain ⟨a', hb', vs, ha, rs⟩ := S.at q
      rw [hb] at hb'; cases hb'
      exact ⟨_, _, rfl, rs, .inl (SqL.of ha)⟩
    · cases e
  | _ => simp only [seqOf] at e; cases e

section
variable (X : Cx) (L : Lk)
theorem in_seq (neg : Bool) (hK : X.K = L.K) {β : Bt} {H : Hp} {h : Heap} {x y : V} {a b : Val} {ys : List Val} {d : D} {ds : List D} {Q : VK} (S : Sim L β H h) (ra : VR L β H x a) (rb : VR L β H y b) (es : seqOf h b = some ys)
    (e1 : toD h 64 a = some d) (e2 : mapO (toD h 63) ys = some ds) (q : Q (.bl (if neg then !(ds.any fun z => z.eqv d) else ds.any fun z => z.eqv d)) H) : rInDT X.K neg x y H Q := by
  obtain ⟨a1, a2⟩ := toD_shaped S e1 ra
  obtain ⟨a', vs, rfl, rs, hs⟩ := seq_of S rb es
  obtain ⟨b1, b2, b3⟩ := mapO_shaped S e2 rs
  refine ⟨_, _, hK ▸ a1, ?_, a2, b2, ?_⟩
  · rw [hK]
    rcases hs with hs | hs
    · exact .inl (.lst hs b1)
    · exact .inr (.tup hs b1)
  · rw [any_toPs]; exact q
theorem o_in (hK : X.K = L.K) (hu : X.A.units + 200 < cLine) : OpR X (compareOp .In) (rOp L .isin) := by
  refine pwO fun pins s σ H x y Q I q => ?_
  obtain ⟨β, h, a, b, z, S, ra, rb, e, k⟩ := q
  simp only [opV] at e
  have seqs : ∀ ys, seqOf h b = some ys → (∀ d ds, toD h 64 a = some d → mapO (toD h 63) ys = some ds → z = .bl (ds.any fun z => z.eqv d) → ∃ r', OpR X (compareOp .In) r' ∧ r' x y H Q) := fun ys es d ds e1 e2 ez => by
    subst ez
    exact ⟨_, op_inDT X hu, in_seq X L false hK S ra rb es e1 e2 (k _ _ _ .refl S (.bl _))⟩
  unfold inVal at e
  split at e
  · rename_i t
    cases rb
    split at e
    · rename_i c
      cases e
      cases ra
      refine ⟨_, op_in_sign, c, _, rfl, rfl, ?_⟩
      rw [show decide (c ∈ (⟨t.toArray⟩ : PySem.Str).cps.toList) = t.contains c by simp]
      exact k _ _ _ .refl S (.bl _)
    · cases e
  · rename_i r
    cases rb with
    | ref hb =>
      split at e
      · rename_i kvs lk q
        split at e
        · rename_i hk
          cases e
          obtain ⟨ps, kk, kr, ek, g⟩ := dic_get S hb q ra hk
          refine ⟨_, op_inDic X hu, _, _, rfl, g, ?_⟩
          rw [kr.some_of ek]
          exact k _ _ _ .refl S (.bl _)
        · cases e
      · rename_i ys q
        split at e
        · rename_i d ds e1 e2
          cases e
          exact seqs ys (by simp only [seqOf, q]) d ds e1 e2 rfl
        · cases e
      · cases e
  · rename_i ys
    split at e
    · rename_i d ds e1 e2
      cases e
      exact seqs ys rfl d ds e1 e2 rfl
    · cases e
  · rename_i ys
    split at e
    · rename_i d ds e1 e2
      cases e
      exact seqs ys rfl d ds e1 e2 rfl
    · cases e
  · cases e
theorem o_notin (hK : X.K = L.K) (hu : X.A.units + 200 < cLine) : OpR X (compareOp .NotIn) (rOp L .notin) := by
  refine pwO fun pins s σ H x y Q I q => ?_
  obtain ⟨β, h, a, b, z, S, ra, rb, e, k⟩ := q
  simp only [opV] at e
  have seqs : ∀ ys, seqOf h b = some ys → (∀ d ds, toD h 64 a = some d → mapO (toD h 63) ys = some ds → z = .bl (!(ds.any fun z => z.eqv d)) → ∃ r', OpR X (compareOp .NotIn) r' ∧ r' x y H Q) := fun ys es d ds e1 e2 ez => by
    subst ez
    exact ⟨_, op_notInDT X hu, in_seq X L true hK S ra rb es e1 e2 (k _ _ _ .refl S (.bl _))⟩
  unfold inVal at e
  split at e
  · rename_i t
    cases rb
    split at e
    · rename_i c
      cases e
      cases ra
      refine ⟨_, op_notIn_sign, c, _, rfl, rfl, ?_⟩
      rw [show decide (c ∈ (⟨t.toArray⟩ : PySem.Str).cps.toList) = t.contains c by simp]
      exact k _ _ _ .refl S (.bl _)
    · cases e
  · rename_i r
    cases rb with
    | ref hb =>
      split at e
      · rename_i kvs lk q
        split at e
        · rename_i hk
          cases e
          obtain ⟨ps, kk, kr, ek, g⟩ := dic_get S hb q ra hk
          refine ⟨_, op_notinDic X hu, _, _, rfl, g, ?_⟩
          rw [kr.some_of ek]
          exact k _ _ _ .refl S (.bl _)
        · cases e
      · rename_i ys q
        split at e
        · rename_i d ds e1 e2
          cases e
          exact seqs ys (by simp only [seqOf, q]) d ds e1 e2 rfl
        · cases e
      · cases e
  · rename_i ys
    split at e
    · rename_i d ds e1 e2
      cases e
      exact seqs ys rfl d ds e1 e2 rfl
    · cases e
  · rename_i ys
    split at e
    · rename_i d ds e1 e2
      cases e
      exact seqs ys rfl d ds e1 e2 rfl
    · cases e
  · cases e
end
end MP

/-! Mp1c: expressions -/
namespace MP
open PySem PySem.Spec PyProof.Rows L2

structure Gd (X : Cx) (L : Lk) (W : WX) (lv : Nat) : Prop where
  hK : X.K = L.K
  calm : X.calm = true
  nd : X.N.Nodup
  hr : Room lv X.A
  tk : Takes X W
  pass : PassesOwn (model X.prog X.w) X.A X.env X.xe
theorem Gd.hu {X : Cx} {L : Lk} {W : WX} {lv : Nat} (G : Gd X L W lv) : X.A.units + 200 < cLine := by have := G.hr.un; omega

section
variable {X : Cx} {L : Lk} {F : Fns} {W : WX} {lv : Nat}

/-! ### names and constants -/
theorem s_var {i : Nat} {x : PySem.Str} {pos : Pos} (hN : X.N[i]? = some x) (hv : Vis X.env.scope x) (hd : (x == ("__debug__" : PySem.Str)) = false) (hcd : (x == ("__classdict__" : PySem.Str)) = false) : PE X (.Name x pos) (tI L F W (.var i)) := by
  refine pwE fun pins s σ H Q I q => ⟨_, pe_var hN hv hd hcd, ?_⟩
  obtain ⟨β, h, ρ, S, R, p⟩ := q
  unfold evE at p
  split at p
  · rename_i v e
    obtain ⟨u, eu, r⟩ := R.get i v e
    exact ⟨u, eu, p _ _ _ .refl S r⟩
  · exact p.elim
theorem s_int {i : Int} {j : Nat} {pos : Pos} : PE X (.Constant (.int i) j pos) (tI L F W (.cst (.int i))) :=
  pwE fun pins s σ H Q I ⟨β, h, ρ, S, R, p⟩ => ⟨_, pe_int, p _ _ _ .refl S (.int i)⟩
theorem s_bl {b : Bool} {j : Nat} {pos : Pos} : PE X (.Constant (.bool b) j pos) (tI L F W (.cst (.bl b))) :=
  pwE fun pins s σ H Q I ⟨β, h, ρ, S, R, p⟩ => ⟨_, pe_bl, p _ _ _ .refl S (.bl b)⟩
theorem s_non {j : Nat} {pos : Pos} : PE X (.Constant .none j pos) (tI L F W (.cst .non)) :=
  pwE fun pins s σ H Q I ⟨β, h, ρ, S, R, p⟩ => ⟨_, pe_non, p _ _ _ .refl S .non⟩
theorem s_str {x : PySem.Str} {j : Nat} {pos : Pos} : PE X (.Constant (.str x) j pos) (tI L F W (.cst (.str x.cps.toList))) :=
  pwE fun pins s σ H Q I ⟨β, h, ρ, S, R, p⟩ => ⟨_, pe_str, p _ _ _ .refl S (by
    have := VR.str (L := L) (β := β) (H := H) x.cps.toList
    rwa [show (⟨x.cps.toList.toArray⟩ : PySem.Str) = x by simp] at this)⟩
/-- a module's constant -/
def Cst (L : Lk) (u : Value) (v : Val) : Prop := ∃ x : V, RelV x u ∧ ∀ β H h, Sim L β H h → VR L β H x v
theorem s_glob {x : PySem.Str} {u : Value} {v : Val} {pos : Pos} (hg : Gl X x) (hm : X.mg x = some u) (c : Cst L u v) (hd : (x == ("__debug__" : PySem.Str)) = false) : PE X (.Name x pos) (tI L F W (.cst v)) := by
  obtain ⟨y, r, k⟩ := c
  exact pwE fun pins s σ H Q I ⟨β, h, ρ, S, R, p⟩ => ⟨_, pe_glob hg hm r hd, p _ _ _ .refl S (k β H h S)⟩

/-! ### argument lists -/
theorem s_nil : PA X [] (tIs L F W []) :=
  pwA fun pins s σ H Q I ⟨β, h, ρ, S, R, p⟩ => ⟨_, pa_nil, p _ _ _ .refl S .nil⟩
def notStar : Expr → Bool
  | .Starred _ _ => false
  | _ => true
theorem starEach_of {e : Expr} {es : List Expr} {env : PySem.Env} (h : notStar e = true) : starEach (e :: es) env = (false, eval e env) :: starEach es env := by
  cases e <;> first | rfl | (simp [notStar] at h)
theorem s_cons {e : Expr} {es : List Expr} {m : E} {ms : List E} (hs : notStar e = true) (he : PE X e (tI L F W m)) (hr : PA X es (tIs L F W ms)) : PA X (e :: es) (tIs L F W (m :: ms)) := by
  refine pwA fun pins s σ H Q I q => ⟨_, pa_cons he hr (starEach_of hs), ?_⟩
  obtain ⟨β, h, ρ, S, R, p⟩ := q
  unfold evEs at p
  refine tI_of S R (Psts.first p fun v h1 u β1 H1 _ x1 S1 r1 p1 => ?_)
  refine tIs_of S1 (R.mono S x1) (Psts.firsts p1 fun vs h2 us β2 H2 _ x2 S2 r2 p2 => ?_)
  exact p2 _ _ _ .refl S2 (.cons (r1.mono S1 x2) r2)

/-! ### displays -/
theorem s_tup {es : List Expr} {ms : List E} {j : Nat} {pos : Pos} (ha : PA X es (tIs L F W ms)) : PE X (.Tuple es j pos) (tI L F W (.tup ms)) := by
  refine pwE fun pins s σ H Q I q => ⟨_, pe_tup ha, ?_⟩
  obtain ⟨β, h, ρ, S, R, p⟩ := q
  unfold evE at p
  refine tIs_of S R (Pst.firsts p fun vs h1 us β1 H1 _ x1 S1 r1 p1 => ?_)
  split at p1
  · rename_i hl
    exact ⟨by rw [← sizeL, r1.length]; exact hl, fin_tup S1 r1 p1⟩
  · exact p1.elim
theorem s_lst {es : List Expr} {ms : List E} {pos : Pos} (new : Bool) (ha : PA X es (tIs L F W ms)) : PE X (.List es pos) (tI L F W (.lst new ms)) := by
  refine pwE fun pins s σ H Q I q => ⟨_, pe_lst ha, ?_⟩
  obtain ⟨β, h, ρ, S, R, p⟩ := q
  unfold evE at p
  refine tIs_of S R (Pst.firsts p fun vs h1 us β1 H1 _ x1 S1 r1 p1 => ?_)
  unfold newL at p1
  split at p1
  · rename_i hl
    refine ⟨by rw [← sizeL, r1.length]; exact hl, ?_⟩
    split at p1
    · exact fin_new S1 r1 p1
    · exact fin_lst S1 r1 p1
  · exact p1.elim
theorem s_dic {pos : Pos} : PE X (.Dict [] [] pos) (tI L F W .dic) := by
  refine pwE fun pins s σ H Q I q => ⟨_, pe_dnewK, fun pp e => ?_⟩
  obtain ⟨β, h, ρ, S, R, p⟩ := q
  unfold evE at p
  exact p _ _ _ (Ext.bound S e) (S.push (c := .dic [] false) e ⟨[], upd_same, .nil⟩) (.ref bnd_same)

/-! ### operators -/
theorem s_op2 {op : Operator} {o : Op} {a b : Expr} {ma mb : E} {pos : Pos} (ho : OpR X (binaryOp op) (rOp L o)) (ha : PE X a (tI L F W ma)) (hb : PE X b (tI L F W mb)) : PE X (.BinOp a op b pos) (tI L F W (.op o ma mb)) := by
  refine pwE fun pins s σ H Q I q => ⟨_, pe_op ho ha hb, ?_⟩
  obtain ⟨β, h, ρ, S, R, p⟩ := q
  unfold evE at p
  refine tI_of S R (Pst.first p fun v h1 u β1 H1 _ x1 S1 r1 p1 => ?_)
  refine tI_of S1 (R.mono S x1) (Pst.first p1 fun v2 h2 u2 β2 H2 _ x2 S2 r2 p2 => ?_)
  cases e : opV h2 o v v2 with
  | none => rw [e] at p2; exact p2.elim
  | some z => rw [e] at p2; exact ⟨β2, h2, v, v2, z, S2, r1.mono S1 x2, r2, e, p2⟩
def notSet : Expr → Bool
  | .Set .. => false
  | _ => true
theorem unmarked {op : CmpOp} {b : Expr} (h : notSet b = true) : behindInMarks op b = false := by
  cases b <;> first | rfl | (simp [notSet] at h)
theorem s_cmp {op : CmpOp} {o : Op} {a b : Expr} {ma mb : E} {pos : Pos} (hb0 : notSet b = true) (ho : OpR X (compareOp op) (rOp L o)) (ha : PE X a (tI L F W ma)) (hb : PE X b (tI L F W mb)) : PE X (.Compare a [op] [b] pos) (tI L F W (.op o ma mb)) := by
  refine pwE fun pins s σ H Q I q => ⟨_, pe_cmpR ho ha hb (unmarked hb0), ?_⟩
  obtain ⟨β, h, ρ, S, R, p⟩ := q
  unfold evE at p
  refine tI_of S R (Pst.first p fun v h1 u β1 H1 _ x1 S1 r1 p1 => ?_)
  refine tI_of S1 (R.mono S x1) (Pst.first p1 fun v2 h2 u2 β2 H2 _ x2 S2 r2 p2 => ?_)
  cases e : opV h2 o v v2 with
  | none => rw [e] at p2; exact p2.elim
  | some z => rw [e] at p2; exact ⟨β2, h2, v, v2, z, S2, r1.mono S1 x2, r2, e, p2⟩
/-- the same as a test -/
theorem tT_of_tI {e : E} {σ : L2.St} {H : Hp} {Q : Bool → Hp → Prop} (q : tT L F W e σ H Q) : tI L F W e σ H fun x H' => ∃ β h v k, Sim L β H' h ∧ VR L β H' x v ∧ truthy h v = some k ∧ Q k H' := by
  obtain ⟨β, h, ρ, S, R, p⟩ := q
  refine ⟨β, h, ρ, S, R, ?_⟩
  cases ee : evE L.T F e ρ h with
  | ok v h' =>
    rw [ee] at p
    obtain ⟨b, eb, k⟩ := p
    exact fun u β' H' x S' r => ⟨β', h', v, b, S', r, eb, k β' H' x S'⟩
  | exc x h' => rw [ee] at p; exact p
  | bad => rw [ee] at p; exact p
theorem truV {β : Bt} {H : Hp} {h : Heap} {x : V} {v : Val} {k : Bool} (hK : X.K = L.K) (S : Sim L β H h) (r : VR L β H x v) (e : truthy h v = some k) : TruV X.K x H k := by
  cases r with
  | non => cases e; rfl
  | bl b => cases e; rfl
  | int i => cases e; rfl
  | str s => cases e
  | tup hs rs => cases e; exact .inr (.inl ⟨_, hK ▸ hs, by cases rs <;> rfl⟩)
  | lst hs _ rs => cases e; exact .inl ⟨_, SqL.of hs, by cases rs <;> rfl⟩
  | arr hs rs => cases e
  | ref hb =>
    simp only [truthy] at e
    split at e
    · rename_i xs q
      cases e
      obtain ⟨a', hb', vs, ha, rs⟩ := S.at q
      rw [hb] at hb'; cases hb'
      exact .inl ⟨_, SqL.of ha, by cases rs <;> rfl⟩
    · cases e
  | fn k => cases e

/-! ### tests -/
def isPlainT : Expr → Bool
  | .UnaryOp .Not _ _ => false
  | .BoolOp .. => false
  | .IfExp .. => false
  | .Compare .. => false
  | _ => true
theorem plainT {e : Expr} (h : isPlainT e = true) (env : PySem.Env) (whole : Sem Value) : isTrue e env whole = (do let v ← whole; standAt e.pos; holding [v] (PySem.truthy v)) := by
  cases e with
  | UnaryOp op a p => cases op <;> first | rfl | (simp [isPlainT] at h)
  | BoolOp => simp [isPlainT] at h
  | IfExp => simp [isPlainT] at h
  | Compare => simp [isPlainT] at h
  | _ => rfl
theorem s_tplain (hK : X.K = L.K) {e : Expr} {m : E} (hp : isPlainT e = true) (he : PE X e (tI L F W m)) : PT X e (tT L F W m) := by
  refine pwT fun pins s σ H Q I q => ⟨_, pt_truth he (plainT hp _), ?_⟩
  obtain ⟨β, h, ρ, S, R, p⟩ := tT_of_tI q
  refine ⟨β, h, ρ, S, R, ?_⟩
  cases ee : evE L.T F m ρ h with
  | ok v h' =>
    rw [ee] at p
    intro u β' H' x S' r
    obtain ⟨β2, h2, v2, k, S2, r2, e2, q2⟩ := p u β' H' x S' r
    exact ⟨k, truV hK S2 r2 e2, q2⟩
  | exc x h' => rw [ee] at p; exact p
  | bad => rw [ee] at p; exact p
theorem s_tnot {e : Expr} {m : E} {pos : Pos} (he : PT X e (tT L F W m)) : PT X (.UnaryOp .Not e pos) (tT L F W (.not m)) := by
  refine pwT fun pins s σ H Q I q => ⟨_, pt_not he, ?_⟩
  obtain ⟨β, h, ρ, S, R, p⟩ := q
  refine ⟨β, h, ρ, S, R, ?_⟩
  unfold evE at p
  cases ee : evE L.T F m ρ h with
  | ok v h' =>
    rw [ee] at p
    dsimp only [Out.bind] at p
    cases et : MP.truthy h' v with
    | none => rw [et] at p; exact p.elim
    | some b =>
      rw [et] at p
      simp only [Option.map, Out.ofOpt_some] at p
      obtain ⟨b', eb, k⟩ := p
      cases eb
      exact ⟨b, et, k⟩
  | exc x h' => rw [ee] at p; exact p
  | bad => rw [ee] at p; exact p
theorem s_tand1 {e : Expr} {m : E} {pos : Pos} (he : PT X e (tT L F W m)) : PW X (.BoolOp .And [e] pos) (tT L F W m) := pw_and1 he
theorem s_tor1 {e : Expr} {m : E} {pos : Pos} (he : PT X e (tT L F W m)) : PW X (.BoolOp .Or [e] pos) (tT L F W m) := pw_or1 he
theorem pwW {X : Cx} {e : Expr} {t : TT} (k : ∀ pins s σ H Q, Inv X pins σ H s → t σ H Q → ∃ t', PW X e t' ∧ t' σ H Q) : PW X e t :=
  ⟨fun wh pins s σ H Q I q => by obtain ⟨t', p, q'⟩ := k pins s σ H Q I q; exact p.run wh pins s σ H Q I q'⟩
theorem s_tand {a b : Expr} {rest : List Expr} {ma mb : E} {pos : Pos} (ha : PT X a (tT L F W ma)) (hb : PW X (.BoolOp .And (b :: rest) pos) (tT L F W mb)) : PW X (.BoolOp .And (a :: b :: rest) pos) (tT L F W (.and ma mb)) := by
  refine pwW fun pins s σ H Q I q => ⟨_, pw_and ha hb, ?_⟩
  obtain ⟨β, h, ρ, S, R, p⟩ := q
  refine ⟨β, h, ρ, S, R, ?_⟩
  unfold evE at p
  cases ee : evE L.T F ma ρ h with
  | ok v h' =>
    rw [ee] at p
    dsimp only [Out.bind] at p
    cases et : MP.truthy h' v with
    | none => rw [et] at p; exact p.elim
    | some b =>
      rw [et] at p
      refine ⟨b, et, fun β' H' x S' => ?_⟩
      cases b with
      | true =>
        refine iteT ⟨β', h', ρ, S', R.mono S x, ?_⟩
        simp only at p
        cases e2 : evE L.T F mb ρ h' with
        | ok v2 h2 => rw [e2] at p; obtain ⟨b2, eb, k⟩ := p; exact ⟨b2, eb, fun β2 H2 x2 S2 => k β2 H2 (x.trans x2) S2⟩
        | exc y h2 => rw [e2] at p; exact fun c d β2 H2 x2 S2 r => p c d β2 H2 (x.trans x2) S2 r
        | bad => rw [e2] at p; exact p
      | false =>
        simp only at p
        obtain ⟨b', eb, k⟩ := p
        rw [et] at eb; cases eb
        exact iteF (k β' H' x S')
  | exc x h' => rw [ee] at p; exact p
  | bad => rw [ee] at p; exact p
theorem s_tor {a b : Expr} {rest : List Expr} {ma mb : E} {pos : Pos} (ha : PT X a (tT L F W ma)) (hb : PW X (.BoolOp .Or (b :: rest) pos) (tT L F W mb)) : PW X (.BoolOp .Or (a :: b :: rest) pos) (tT L F W (.or ma mb)) := by
  refine pwW fun pins s σ H Q I q => ⟨_, pw_or ha hb, ?_⟩
  obtain ⟨β, h, ρ, S, R, p⟩ := q
  refine ⟨β, h, ρ, S, R, ?_⟩
  unfold evE at p
  cases ee : evE L.T F ma ρ h with
  | ok v h' =>
    rw [ee] at p
    dsimp only [Out.bind] at p
    cases et : MP.truthy h' v with
    | none => rw [et] at p; exact p.elim
    | some b =>
      rw [et] at p
      refine ⟨b, et, fun β' H' x S' => ?_⟩
      cases b with
      | false =>
        refine iteF ⟨β', h', ρ, S', R.mono S x, ?_⟩
        simp only at p
        cases e2 : evE L.T F mb ρ h' with
        | ok v2 h2 => rw [e2] at p; obtain ⟨b2, eb, k⟩ := p; exact ⟨b2, eb, fun β2 H2 x2 S2 => k β2 H2 (x.trans x2) S2⟩
        | exc y h2 => rw [e2] at p; exact fun c d β2 H2 x2 S2 r => p c d β2 H2 (x.trans x2) S2 r
        | bad => rw [e2] at p; exact p
      | true =>
        simp only at p
        obtain ⟨b', eb, k⟩ := p
        rw [et] at eb; cases eb
        exact iteT (k β' H' x S')
  | exc x h' => rw [ee] at p; exact p
  | bad => rw [ee] at p; exact p
def isCmp : Op → Bool
  | .eq | .ne | .lt | .le | .gt | .ge | .is | .isnot | .isin | .notin => true
  | _ => false
theorem cmp_bl {h : Heap} {o : Op} {x y z : Val} (c : isCmp o = true) (e : opV h o x y = some z) : ∃ b, z = .bl b := by
  cases o with
  | eq => simp only [opV, Option.map_eq_some_iff] at e; obtain ⟨b, _, rfl⟩ := e; exact ⟨_, rfl⟩
  | ne => simp only [opV, Option.map_eq_some_iff] at e; obtain ⟨b, _, rfl⟩ := e; exact ⟨_, rfl⟩
  | is => simp only [opV, Option.map_eq_some_iff] at e; obtain ⟨b, _, rfl⟩ := e; exact ⟨_, rfl⟩
  | isnot => simp only [opV, Option.map_eq_some_iff] at e; obtain ⟨b, _, rfl⟩ := e; exact ⟨_, rfl⟩
  | isin => simp only [opV, Option.map_eq_some_iff] at e; obtain ⟨b, _, rfl⟩ := e; exact ⟨_, rfl⟩
  | notin => simp only [opV, Option.map_eq_some_iff] at e; obtain ⟨b, _, rfl⟩ := e; exact ⟨_, rfl⟩
  | lt => simp only [opV] at e; split at e <;> first | (cases e; exact ⟨_, rfl⟩) | cases e
  | le => simp only [opV] at e; split at e <;> first | (cases e; exact ⟨_, rfl⟩) | cases e
  | gt => simp only [opV] at e; split at e <;> first | (cases e; exact ⟨_, rfl⟩) | cases e
  | ge => simp only [opV] at e; split at e <;> first | (cases e; exact ⟨_, rfl⟩) | cases e
  | _ => simp [isCmp] at c
/-- a test from a value that is a truth value -/
theorem tT_bl {e : E} {σ : L2.St} {H : Hp} {Q : Bool → Hp → Prop} (hb : ∀ ρ h v h', evE L.T F e ρ h = .ok v h' → ∃ b, v = .bl b) (q : tT L F W e σ H Q) : tI L F W e σ H fun x H' => ∃ k, x = .bl k ∧ Q k H' := by
  obtain ⟨β, h, ρ, S, R, p⟩ := q
  refine ⟨β, h, ρ, S, R, ?_⟩
  cases ee : evE L.T F e ρ h with
  | ok v h' =>
    rw [ee] at p
    obtain ⟨b, rfl⟩ := hb _ _ _ _ ee
    obtain ⟨b', eb, k⟩ := p
    cases eb
    exact fun u β' H' x S' r => by cases r; exact ⟨b, rfl, k β' H' x S'⟩
  | exc x h' => rw [ee] at p; exact p
  | bad => rw [ee] at p; exact p
theorem op_bl {o : Op} {ma mb : E} (c : isCmp o = true) (ρ : Env) (h : Heap) (v : Val) (h' : Heap) (e : evE L.T F (.op o ma mb) ρ h = .ok v h') : ∃ b, v = .bl b := by
  unfold evE at e
  cases e1 : evE L.T F ma ρ h with
  | ok x h1 =>
    rw [e1] at e
    dsimp only [Out.bind] at e
    cases e2 : evE L.T F mb ρ h1 with
    | ok y h2 =>
      rw [e2] at e
      dsimp only [Out.bind] at e
      cases e3 : opV h2 o x y with
      | none => rw [e3] at e; cases e
      | some z =>
        rw [e3] at e
        obtain ⟨b, rfl⟩ := cmp_bl c e3
        cases e
        exact ⟨b, rfl⟩
    | exc _ _ => rw [e2] at e; cases e
    | bad => rw [e2] at e; cases e
  | exc _ _ => rw [e1] at e; cases e
  | bad => rw [e1] at e; cases e
theorem s_tcmp {op : CmpOp} {o : Op} {a b : Expr} {ma mb : E} {pos : Pos} (c : isCmp o = true) (hb0 : notSet b = true) (ho : OpR X (compareOp op) (rOp L o)) (ha : PE X a (tI L F W ma)) (hb : PE X b (tI L F W mb)) : PT X (.Compare a [op] [b] pos) (tT L F W (.op o ma mb)) := by
  refine pwT fun pins s σ H Q I q => ⟨_, pt_cmpR ho ha hb (unmarked hb0), ?_⟩
  obtain ⟨β, h, ρ, S, R, p⟩ := tT_bl (op_bl c) q
  unfold evE at p
  refine tI_of S R (Pst.first p fun v h1 u β1 H1 _ x1 S1 r1 p1 => ?_)
  refine tI_of S1 (R.mono S x1) (Pst.first p1 fun v2 h2 u2 β2 H2 _ x2 S2 r2 p2 => ?_)
  cases e : opV h2 o v v2 with
  | none => rw [e] at p2; exact p2.elim
  | some z => rw [e] at p2; exact ⟨β2, h2, v, v2, z, S2, r1.mono S1 x2, r2, e, p2⟩

/-! ### a op b op c -/
theorem chain_step {o o' : Op} {ma mb mc : E} {σ : L2.St} {β : Bt} {H : Hp} {h : Heap} {ρ : Env} {Q : VK} (c : isCmp o = true) (S : Sim L β H h) (R : ER L β H σ ρ) (p : Pst L β H (evE L.T F (.chain o o' ma mb mc) ρ h) Q fun c d H' => W c d σ H') :
    tChain (rOp L o) (rOp L o') (tI L F W ma) (tI L F W mb) (tI L F W mc) σ H Q := by
  unfold evE at p
  refine tI_of S R (Pst.first p fun v h1 u β1 H1 _ x1 S1 r1 p1 => ?_)
  refine tI_of S1 (R.mono S x1) (Pst.first p1 fun v2 h2 u2 β2 H2 _ x2 S2 r2 p2 => ?_)
  cases e : opV h2 o v v2 with
  | none => rw [e] at p2; exact p2.elim
  | some z =>
    rw [e] at p2
    obtain ⟨b, rfl⟩ := cmp_bl c e
    refine ⟨β2, h2, v, v2, _, S2, r1.mono S1 x2, r2, e, fun u3 β3 H3 x3 S3 r3 => ?_⟩
    cases r3
    refine ⟨b, rfl, ?_⟩
    cases b with
    | true =>
      refine iteT (tI_of S3 ((R.mono S x1).mono S1 (x2.trans x3)) (Pst.first (Pst.mono x3 p2) fun v4 h4 u4 β4 H4 _ x4 S4 r4 p4 => ?_))
      cases e4 : opV h4 o' v2 v4 with
      | none => rw [e4] at p4; exact p4.elim
      | some z4 => rw [e4] at p4; exact ⟨β4, h4, v2, v4, z4, S4, (r2.mono S2 x3).mono S3 x4, r4, e4, p4⟩
    | false => exact iteF (p2 _ _ _ x3 S3 (.bl false))
theorem unmarked2 {op op' : CmpOp} {b c : Expr} (h : notSet c = true) : lastMarks [op, op'] [b, c] = false := unmarked h
theorem s_chain {op op' : CmpOp} {o o' : Op} {a b e : Expr} {ma mb mc : E} {pos : Pos} (c : isCmp o = true) (hb0 : notSet e = true) (ho : OpR X (compareOp op) (rOp L o)) (ho' : OpR X (compareOp op') (rOp L o'))
    (ha : PE X a (tI L F W ma)) (hb : PE X b (tI L F W mb)) (he : PE X e (tI L F W mc)) : PE X (.Compare a [op, op'] [b, e] pos) (tI L F W (.chain o o' ma mb mc)) :=
  pwE fun pins s σ H Q I ⟨β, h, ρ, S, R, p⟩ => ⟨_, pe_chain ho ho' ha hb he (unmarked2 hb0), chain_step c S R p⟩
theorem chain_bl {o o' : Op} {ma mb mc : E} (c : isCmp o = true) (c' : isCmp o' = true) (ρ : Env) (h : Heap) (v : Val) (h' : Heap) (e : evE L.T F (.chain o o' ma mb mc) ρ h = .ok v h') : ∃ b, v = .bl b := by
  unfold evE at e
  cases e1 : evE L.T F ma ρ h with
  | ok x h1 =>
    rw [e1] at e
    dsimp only [Out.bind] at e
    cases e2 : evE L.T F mb ρ h1 with
    | ok y h2 =>
      rw [e2] at e
      dsimp only [Out.bind] at e
      split at e
      · cases e4 : evE L.T F mc ρ h2 with
        | ok w h4 =>
          rw [e4] at e
          dsimp only [Out.bind] at e
          cases e5 : opV h4 o' y w with
          | none => rw [e5] at e; cases e
          | some z => rw [e5] at e; obtain ⟨b, rfl⟩ := cmp_bl c' e5; cases e; exact ⟨b, rfl⟩
        | exc _ _ => rw [e4] at e; cases e
        | bad => rw [e4] at e; cases e
      · cases e; exact ⟨_, rfl⟩
      · cases e
    | exc _ _ => rw [e2] at e; cases e
    | bad => rw [e2] at e; cases e
  | exc _ _ => rw [e1] at e; cases e
  | bad => rw [e1] at e; cases e
theorem s_tchain {op op' : CmpOp} {o o' : Op} {a b e : Expr} {ma mb mc : E} {pos : Pos} (c : isCmp o = true) (c' : isCmp o' = true) (hb0 : notSet e = true) (ho : OpR X (compareOp op) (rOp L o)) (ho' : OpR X (compareOp op') (rOp L o'))
    (ha : PE X a (tI L F W ma)) (hb : PE X b (tI L F W mb)) (he : PE X e (tI L F W mc)) : PT X (.Compare a [op, op'] [b, e] pos) (tT L F W (.chain o o' ma mb mc)) := by
  refine pwT fun pins s σ H Q I q => ⟨_, pt_chain ho ho' ha hb he (unmarked2 hb0), ?_⟩
  obtain ⟨β, h, ρ, S, R, p⟩ := tT_bl (chain_bl c c') q
  exact chain_step c S R p

/-! ### not, and, or, if as values; signs -/
theorem s_neg {a : Expr} {ma : E} {pos : Pos} (ha : PE X a (tI L F W ma)) : PE X (.UnaryOp .USub a pos) (tI L F W (.neg ma)) := by
  refine pwE fun pins s σ H Q I q => ⟨_, pe_un un_neg ha, ?_⟩
  obtain ⟨β, h, ρ, S, R, p⟩ := q
  unfold evE at p
  refine tI_of S R (Pst.first p fun v h1 u β1 H1 _ x1 S1 r1 p1 => ?_)
  split at p1
  · cases r1; exact ⟨_, rfl, p1 _ _ _ .refl S1 (.int _)⟩
  · exact p1.elim
theorem s_not {a : Expr} {ma : E} {pos : Pos} (hK : X.K = L.K) (ha : PE X a (tI L F W ma)) : PE X (.UnaryOp .Not a pos) (tI L F W (.not ma)) := by
  refine pwE fun pins s σ H Q I q => ⟨_, pe_notT ha, ?_⟩
  obtain ⟨β, h, ρ, S, R, p⟩ := q
  unfold evE at p
  refine tI_of S R (Pst.first p fun v h1 u β1 H1 _ x1 S1 r1 p1 => ?_)
  cases e : MP.truthy h1 v with
  | none => rw [e] at p1; exact p1.elim
  | some b => rw [e] at p1; exact ⟨b, truV hK S1 r1 e, p1 _ _ _ .refl S1 (.bl _)⟩
theorem s_and1 {op : BoolOp} {a : Expr} {ma : E} {pos : Pos} (ha : PE X a (tI L F W ma)) : PE X (.BoolOp op [a] pos) (tI L F W ma) := pe_one ha
theorem s_and {a b : Expr} {rest : List Expr} {ma mb : E} {pos : Pos} (hK : X.K = L.K) (ha : PE X a (tI L F W ma)) (hb : PE X (.BoolOp .And (b :: rest) pos) (tI L F W mb)) : PE X (.BoolOp .And (a :: b :: rest) pos) (tI L F W (.and ma mb)) := by
  refine pwE fun pins s σ H Q I q => ⟨_, pe_andT ha hb, ?_⟩
  obtain ⟨β, h, ρ, S, R, p⟩ := q
  unfold evE at p
  refine tI_of S R (Pst.first p fun v h1 u β1 H1 _ x1 S1 r1 p1 => ?_)
  cases e : MP.truthy h1 v with
  | none => rw [e] at p1; exact p1.elim
  | some b =>
    rw [e] at p1
    refine ⟨b, truV hK S1 r1 e, ?_⟩
    cases b with
    | true => exact iteT (tI_of S1 (R.mono S x1) p1)
    | false => exact iteF (p1 _ _ _ .refl S1 r1)
theorem s_or {a b : Expr} {rest : List Expr} {ma mb : E} {pos : Pos} (hK : X.K = L.K) (ha : PE X a (tI L F W ma)) (hb : PE X (.BoolOp .Or (b :: rest) pos) (tI L F W mb)) : PE X (.BoolOp .Or (a :: b :: rest) pos) (tI L F W (.or ma mb)) := by
  refine pwE fun pins s σ H Q I q => ⟨_, pe_orT ha hb, ?_⟩
  obtain ⟨β, h, ρ, S, R, p⟩ := q
  unfold evE at p
  refine tI_of S R (Pst.first p fun v h1 u β1 H1 _ x1 S1 r1 p1 => ?_)
  cases e : MP.truthy h1 v with
  | none => rw [e] at p1; exact p1.elim
  | some b =>
    rw [e] at p1
    refine ⟨b, truV hK S1 r1 e, ?_⟩
    cases b with
    | true => exact iteT (p1 _ _ _ .refl S1 r1)
    | false => exact iteF (tI_of S1 (R.mono S x1) p1)
theorem s_ite {c a b : Expr} {mc ma mb : E} {pos : Pos} (hc : PT X c (tT L F W mc)) (ha : PE X a (tI L F W ma)) (hb : PE X b (tI L F W mb)) : PE X (.IfExp c a b pos) (tI L F W (.ite mc ma mb)) := by
  refine pwE fun pins s σ H Q I q => ⟨_, pe_ifExp hc ha hb, ?_⟩
  obtain ⟨β, h, ρ, S, R, p⟩ := q
  unfold evE at p
  refine ⟨β, h, ρ, S, R, ?_⟩
  cases ee : evE L.T F mc ρ h with
  | ok v h' =>
    rw [ee] at p
    dsimp only [Out.bind] at p
    cases et : MP.truthy h' v with
    | none => rw [et] at p; exact p.elim
    | some b =>
      rw [et] at p
      refine ⟨b, et, fun β' H' x S' => ?_⟩
      cases b with
      | true => exact iteT (tI_of S' (R.mono S x) (Pst.mono x p))
      | false => exact iteF (tI_of S' (R.mono S x) (Pst.mono x p))
  | exc x h' => rw [ee] at p; exact p
  | bad => rw [ee] at p; exact p

/-! ### subscripts, slices -/
def plainIx : Expr → Bool
  | .Slice .. => false
  | _ => true
theorem plainIx_of {b : Expr} (h : plainIx b = true) : PlainIx b := by
  cases b <;> first | (intro _ _; rfl) | (simp [plainIx] at h)
theorem pwI {r : R2} (k : ∀ pins s σ H x y Q, Inv X pins σ H s → r x y H Q → ∃ r', IxR X r' ∧ r' x y H Q) : IxR X r := by
  intro value slice pins s σ H x y v u Q I rx ry q hs
  obtain ⟨r', p, q'⟩ := k pins s σ H x y Q I q
  exact p value slice pins s σ H x y v u Q I rx ry q' hs
theorem ix_dic (hu : X.A.units + 200 < cLine) : IxR X (fun x y H Q => ∃ a v, x = .ref a ∧ DGet H a y (some v) ∧ Q v H) := by
  intro value slice pins s σ H x y v u Q I rx ry h hs
  obtain ⟨a, z, rfl, g, q⟩ := h
  cases rx
  exact tail_any (dict_typeIs I g) PySem.F.slot_dict_getitem.lookup (d_getItem (by omega) I g ry fun w' s' I' rw' => ⟨z, H, I', rw', q⟩) hs
def rSub (L : Lk) : R2 := fun x y H Q => ∃ (β : Bt) (h : Heap) (a b z : Val), Sim L β H h ∧ VR L β H x a ∧ VR L β H y b ∧ subV h a b = some z ∧ ∀ u β' H', Ext β H β' H' → Sim L β' H' h → VR L β' H' u z → Q u H'
theorem place_ixN (n : Nat) (i : Int) : place n i = ixN n i := rfl
theorem at_atI {β : Bt} {H : Hp} {vs : List V} {xs : List Val} {i : Int} {z : Val} (r : VRs L β H vs xs) (e : at_ xs i = some z) : ∃ v, atI vs i = some v ∧ VR L β H v z := by
  unfold at_ at e
  unfold atI
  rw [place_ixN] at e
  rw [r.length]
  cases q : ixN xs.length i with
  | none => rw [q] at e; cases e
  | some j =>
    rw [q] at e
    exact r.get (i := j) e
theorem o_sub_ix (hK : X.K = L.K) (hu : X.A.units + 200 < cLine) : IxR X (rSub L) := by
  refine pwI fun pins s σ H x y Q I q => ?_
  obtain ⟨β, h, a, b, z, S, ra, rb, e, k⟩ := q
  have seqs : ∀ xs i, seqOf h a = some xs → b = .int i → at_ xs i = some z → ∃ r', IxR X r' ∧ r' x y H Q := fun xs i es eb ez => by
    subst eb
    cases rb
    obtain ⟨a', vs, rfl, rs, hs⟩ := seq_of S ra es
    obtain ⟨v, ev, r⟩ := at_atI rs ez
    rw [← hK] at hs
    rcases hs with hs | hs
    · exact ⟨_, ix_list, _, _, _, _, rfl, rfl, hs, ev, k _ _ _ .refl S r⟩
    · exact ⟨_, ix_tup, _, _, _, _, rfl, rfl, hs, ev, k _ _ _ .refl S r⟩
  unfold subV at e
  split at e
  · rename_i t
    split at e
    · rename_i i
      obtain ⟨hl, e⟩ : t.length ≤ line ∧ (at_ t i).map (fun c => Val.str [c]) = some z := by
        split at e
        · exact ⟨by assumption, e⟩
        · cases e
      cases ra; cases rb
      obtain ⟨c, ec, rfl⟩ := Option.map_eq_some_iff.mp e
      refine ⟨_, ix_str, _, _, c, rfl, rfl, ?_, ?_, ?_⟩
      · rw [← sizeL]; exact hl
      · exact ec
      · exact k _ _ _ .refl S (.str [c])
    · cases e
  · rename_i r
    cases ra with
    | ref hb =>
      split at e
      · rename_i kvs lk q
        split at e
        · rename_i hk
          obtain ⟨ps, kk, kr, ek, g⟩ := dic_get S hb q rb hk
          obtain ⟨v, ev, r⟩ := (kr.get ek).1 z e
          rw [ev] at g
          exact ⟨_, ix_dic hu, _, _, rfl, g, k _ _ _ .refl S r⟩
        · cases e
      · rename_i xs q
        split at e
        · exact seqs xs _ (by simp only [seqOf, q]) rfl e
        · cases e
      · cases e
  · split at e
    · rename_i i
      cases es : seqOf h a with
      | none => rw [es] at e; cases e
      | some xs => rw [es] at e; exact seqs xs i es rfl e
    · cases e
theorem s_sub {a b : Expr} {ma mb : E} {pos : Pos} (hK : X.K = L.K) (hu : X.A.units + 200 < cLine) (hp : plainIx b = true) (ha : PE X a (tI L F W ma)) (hb : PE X b (tI L F W mb)) : PE X (.Subscript a b pos) (tI L F W (.sub ma mb)) := by
  refine pwE fun pins s σ H Q I q => ⟨_, pe_ix (o_sub_ix (L := L) hK hu) ha hb (plainIx_of hp), ?_⟩
  obtain ⟨β, h, ρ, S, R, p⟩ := q
  unfold evE at p
  refine tI_of S R (Pst.first p fun v h1 u β1 H1 _ x1 S1 r1 p1 => ?_)
  refine tI_of S1 (R.mono S x1) (Pst.first p1 fun v2 h2 u2 β2 H2 _ x2 S2 r2 p2 => ?_)
  cases e : subV h2 v v2 with
  | none => rw [e] at p2; exact p2.elim
  | some z => rw [e] at p2; exact ⟨β2, h2, v, v2, z, S2, r1.mono S1 x2, r2, e, p2⟩
end
end MP

/-! Mp1d: attributes, slices, calls -/
namespace MP
open PySem PySem.Spec PyProof.Rows L2

/-- an exception class whose instances are looked at -/
structure ExI (K : PySem.W.Frag) (C : Addr) : Prop where
  ic : (PySem.W.clsIn K C).isSome = true
  ga : PySem.W.findIn K (.ref C) "__getattribute__" = some (some (.builtin "BaseException.__getattribute__"))
  gg : PySem.W.findIn K (.ref C) "__getattr__" = some none
  sb : PySem.W.subIn K (.ref C) (.type "BaseException") = some true
  hd : PySem.W.hasDictIn K C = true
  ca : PySem.W.findIn K (.ref C) "__class__" = some (some (.builtin "object.__class__"))
  cn : PySem.W.specialIn K (.builtin "object.__class__") "__get__" = some (some (.builtin "getset_descriptor.__get__"))
  ct : PySem.W.takesIn K (.builtin "object.__class__") = some true
  mo : PySem.W.mroIn K C (.type "object") = some true
/-- an exception class whose own __init__ keeps its one argument as line -/
structure ExnOne (K : PySem.W.Frag) (C : Addr) : Prop where
  oex : OexC K C
  no : PySem.W.findIn K (.ref C) "line" = some none
  at_ : ∃ (fI : Addr) (fd : FuncData) (x qual : PySem.Str) (params : Arguments) (scope : Scope) (p1 p2 p3 p4 : Pos), PySem.W.findIn K (.ref C) "__init__" = some (some (.ref fI)) ∧ PySem.W.typeIn K (.ref fI) = some (.type "function") ∧
    FunD K x qual params [.Assign [.Attribute (.Name "self" p1) "line" p2] (.Name "line" p3) p4] scope [] [] fI fd ∧ FnScope ["self", "line"] ["self", "line"] scope ∧ Binds K fd ["self", "line"] []
/-- what the written part says of classes and names -/
structure Lf (K : PySem.W.Frag) (L : Lk) : Prop where
  inj : ∀ i j, L.nm i = L.nm j → i = j
  cls : ∀ c, L.T.isC c = true → Cls K (L.ca c)
  noat : ∀ c f, L.T.isC c = true → L.T.fo c f = true → NoAttr K (L.ca c) (L.nm f)
  meth : ∀ c m k, L.T.isC c = true → L.T.meth c m = some k → Meth K (L.ca c) (L.nm m) (L.fa k)
  prop : ∀ c f k, L.T.isC c = true → L.T.prop c f = some k → ∃ p, PropOf K (L.ca c) (L.nm f) p (L.fa k)
  init : ∀ c k, L.T.isC c = true → L.T.init c = some k → Mk K (L.ca c) (L.fa k)
  exn0 : ∀ c, L.T.exn c = some false → PySem.W.excIn K (L.ca c) He.veBase "ValueError.__new__" = true ∧ PySem.W.keepIn K (.ref (L.ca c)) = true ∧ PySem.W.subIn K (.ref (L.ca c)) (.type "BaseException") = some true ∧ PySem.W.typeIn K (.ref (L.ca c)) = some (.type "type")
  exn1 : ∀ c, L.T.exn c = some true → ExnOne K (L.ca c)
  exm : ∀ a c b, L.T.sub a c = some b → PySem.W.exmOne K (.ref (L.ca a)) (.ref (L.ca c)) = some b
  exi : L.T.xi = true → ∀ c b, L.T.exn c = some b → ExI K (L.ca c)
  exk : L.T.xi = true → ∀ a c b, L.T.sub a c = some b → PySem.W.kitOne K (.ref (L.ca a)) (.ref (L.ca c)) = some b

/-- what a def gives -/
def spF (L : Lk) (F : Fns) (k : Nat) : Sp := fun vs H Q E => ∃ (pv : Addr → Prop) (β : Bt) (h : Heap) (args : List Val), Sim (L.pvs pv) β H h ∧ VRs (L.pvs pv) β H vs args ∧ Pst (L.pvs pv) β H (F k args h) Q E
/-- a def that takes its arguments as they are written -/
def PlainFn (P : Program) (w : World) (K : PySem.W.Frag) (mg : PySem.Str → Option Value) (base : PySem.Heap) (L : Lk) (F : Fns) (lv k : Nat) : Prop :=
  ∃ fd ps, FnOk P w K mg base (L2.CX P w) lv (L.fa k) fd ps (spF L F k) ∧ Binds K fd ps [] ∧ PySem.W.keepIn K (.ref (L.fa k)) = true
/-- a def with n written arguments and the keywords ks -/
def KwFn (P : Program) (w : World) (K : PySem.W.Frag) (mg : PySem.Str → Option Value) (base : PySem.Heap) (L : Lk) (F : Fns) (lv k n : Nat) (ks : List PySem.Str) (b : List Bd) : Prop :=
  ∃ fd ps g gV, FnOk P w K mg base (L2.CX P w) lv (L.fa k) fd ps (spF L F k) ∧ KBn K fd ps n ks g gV ∧ PySem.W.keepIn K (.ref (L.fa k)) = true ∧
    ∀ pv β H h vs zs args us, Sim (L.pvs pv) β H h → VRs (L.pvs pv) β H (vs ++ zs) args → vs.length = n → zs.length = ks.length → bindBd args b = some us → VRs (L.pvs pv) β H (gV vs zs) us
theorem FR.look {L : Lk} {β : Bt} {H : Hp} (inj : ∀ i j, L.nm i = L.nm j → i = j) (f : Nat) : ∀ {ps : List (PySem.Str × V)} {qs : List (Nat × Val)}, FR L β H ps qs →
    (∀ x, lookF qs f = some x → ∃ v, ps.lookup (L.nm f) = some v ∧ VR L β H v x) ∧ (lookF qs f = none → ps.lookup (L.nm f) = none)
  | _, _, .nil => ⟨fun x e => by simp [lookF] at e, fun _ => rfl⟩
  | _, _, .cons (f := g) (v := v) (x := y) r t => by
    obtain ⟨i1, i2⟩ := FR.look inj f t
    by_cases z : f = g
    · subst z
      have e1 : (f == f) = true := beq_self_eq_true f
      refine ⟨fun x e => ?_, fun e => ?_⟩
      · simp only [lookF, e1, if_true] at e
        cases e
        exact ⟨v, by simp [List.lookup], r⟩
      · simp only [lookF, e1, if_true] at e
        cases e
    · have e1 : (f == g) = false := beq_eq_false_iff_ne.mpr z
      have e2 : (L.nm f == L.nm g) = false := beq_eq_false_iff_ne.mpr fun q => z (inj f g q)
      refine ⟨fun x e => ?_, fun e => ?_⟩
      · simp only [lookF, e1] at e
        obtain ⟨u, eu, ru⟩ := i1 x e
        exact ⟨u, by simp [List.lookup, e2, eu], ru⟩
      · simp only [lookF, e1] at e
        simp [List.lookup, e2, i2 e]
theorem FR.put {L : Lk} {β : Bt} {H : Hp} (inj : ∀ i j, L.nm i = L.nm j → i = j) (f : Nat) {v : V} {x : Val} (r : VR L β H v x) : ∀ {ps : List (PySem.Str × V)} {qs : List (Nat × Val)}, FR L β H ps qs →
    FR L β H (L2.putF (L.nm f) v ps) (MP.putF qs f x)
  | _, _, .nil => .cons r .nil
  | _, _, .cons (f := g) r' t => by
    unfold L2.putF MP.putF
    by_cases z : g = f
    · subst z
      rw [if_pos rfl, if_pos (beq_self_eq_true g)]
      exact .cons r t
    · rw [if_neg (fun q => z (inj g f q)), if_neg (by simpa using z)]
      exact .cons r' (FR.put inj f r t)
theorem FR.length {L : Lk} {β : Bt} {H : Hp} : ∀ {ps : List (PySem.Str × V)} {qs : List (Nat × Val)}, FR L β H ps qs → ps.length = qs.length
  | _, _, .nil => rfl
  | _, _, .cons _ t => congrArg Nat.succ (FR.length t)

/-- a base that is no bare call of super -/
def notSuper : Expr → Bool
  | .Call (.Name id _) [] [] _ => id != "super"
  | _ => true
theorem base_of {o : Expr} {attr : PySem.Str} {env : PySem.Env} {t : Sem Value} (h : notSuper o = true) : attributeBase o attr env t = t := by
  unfold attributeBase
  split
  · rename_i id p pos
    have hn : (id != ("super" : PySem.Str)) = true := h
    simp only [hn, Bool.true_or, if_true]
  · rfl

section
variable {X : Cx} {L : Lk} {F : Fns} {W : WX} {lv : Nat}
theorem ins_at {β : Bt} {H : Hp} {h : Heap} (S : Sim L β H h) {a : Addr} {r c : Nat} {fs : List (Nat × Val)} (e : β r = some a) (q : h.c r = some (.ins c fs)) :
    L.T.isC c = true ∧ (∀ p ∈ fs, L.T.fo c p.1 = true) ∧ ∃ dx ps, H a = some (.ins (L.ca c) dx ps) ∧ FR L β H ps fs := by
  obtain ⟨a', e', x⟩ := S.at q
  rw [e] at e'; cases e'
  exact x
theorem lookF_mem {fs : List (Nat × Val)} {f : Nat} {v : Val} (e : lookF fs f = some v) : ∃ p ∈ fs, p.1 = f := by
  induction fs with
  | nil => simp [lookF] at e
  | cons p r ih =>
    by_cases z : f = p.1
    · exact ⟨p, List.mem_cons_self, z.symm⟩
    · have e : lookF r f = some v := by simpa [lookF, beq_eq_false_iff_ne.mpr z] using e
      obtain ⟨q, hq, eq⟩ := ih e
      exact ⟨q, List.mem_cons_of_mem _ hq, eq⟩
/-- o.f; a property where pr says so -/
theorem s_attr {o : Expr} {f : Nat} {mo : E} {pos : Pos} (G : Gd X L W (lv + 1)) (K0 : Lf X.K L) (hn : notSuper o = true) (ho : PE X o (tI L F W mo))
    (pf : ∀ c k, L.T.isC c = true → L.T.prop c f = some k → PlainFn X.prog X.w X.K X.mg X.base L F lv k) : PE X (.Attribute o (L.nm f) pos) (tI L F W (.attr mo f)) := by
  -- the value's kind is known only behind o: a rule of our own, by the value
  refine ⟨fun pins s σ H Q I q => ?_⟩
  obtain ⟨β, h, ρ, S, R, p⟩ := q
  unfold evE at p
  refine attr_of (base_of hn) (thn (ho.run pins s σ H (fun x H1 => ∃ β1 h1 v, Sim L β1 H1 h1 ∧ VR L β1 H1 x v ∧ Pst L β1 H1 (attrV L.T F v f h1) Q fun c d H' => W c d σ H') I
    (tI_of S R (Pst.first p fun v h1 u β1 H1 _ x1 S1 r1 p1 => ⟨β1, h1, v, S1, r1, p1⟩))) fun u s1 ⟨x, H1, I1, rx, β1, h1, v, S1, r1, p1⟩ => ?_)
  unfold attrV at p1
  split at p1
  · rename_i r
    split at p1
    · rename_i c fs hc
      cases r1 with
      | ref hb =>
        obtain ⟨ic, fo, dx, ps, ha, fr⟩ := ins_at S1 hb hc
        obtain ⟨l1, l2⟩ := fr.look K0.inj f
        cases rx
        split at p1
        · rename_i y ey
          obtain ⟨w, ew, rw'⟩ := l1 y ey
          obtain ⟨pp, hp, ep⟩ := lookF_mem ey
          exact getattr_ok I1 ha (K0.cls c ic) (K0.noat c f ic (ep ▸ fo pp hp)) ew fun u2 s2 I2 ru => ⟨w, H1, I2, ru, p1 _ _ _ .refl S1 rw'⟩
        · rename_i ey
          split at p1
          · rename_i k ek
            obtain ⟨pa, hpo⟩ := K0.prop c f k ic ek
            obtain ⟨fd, pps, Fk, hbd, kp⟩ := pf c k ic ek
            have hs : spF L F k [.ref _] H1 Q fun _ _ _ => False := ⟨L.pv, β1, h1, [.ref r], S1, .cons (.ref hb) .nil, by
              cases e : F k [.ref r] h1 with
              | ok y h2 => rw [e] at p1; exact p1
              | exc y h2 => rw [e] at p1; exact p1.elim
              | bad => rw [e] at p1; exact p1.elim⟩
            exact getprop_ok (dvs := []) (ds := []) I1 ha (K0.cls c ic) hpo Fk G.hr hbd .nil passL hs
          · exact p1.elim
    · exact p1.elim
  · exact p1.elim

/-! ### a[lo:hi] -/
/-- what is wanted of a value that may be a list to be laid -/
def Want (L : Lk) (β : Bt) (H : Hp) (new : Bool) (h : Heap) (z : Val) (Q : VK) : Prop := match z with
  | .lst xs => if new = true then ∀ u β' H', Ext β H β' H' → Sim L β' H' (h.push (.lst xs)) → VR L β' H' u (.ref h.n) → Q u H' else ∀ u β' H', Ext β H β' H' → Sim L β' H' h → VR L β' H' u z → Q u H'
  | _ => ∀ u β' H', Ext β H β' H' → Sim L β' H' h → VR L β' H' u z → Q u H'
theorem Want.lst {β : Bt} {H : Hp} {new : Bool} {h : Heap} {xs : List Val} {vs : List V} {Q : VK} (S : Sim L β H h) (r : VRs L β H vs xs) (k : Want L β H new h (.lst xs) Q) : ∀ p, H p = none → Q (.ref p) (upd H p (.lst vs)) := by
  unfold Want at k
  cases new with
  | true => exact fin_new S r (by simpa using k)
  | false => exact fin_lst S r (by simpa using k)
def rSli (L : Lk) (new : Bool) : V → Option Int → Option Int → Hp → VK → Prop := fun x lo hi H Q => ∃ (β : Bt) (h : Heap) (a z : Val), Sim L β H h ∧ VR L β H x a ∧ sliceV h a lo hi = some z ∧ Want L β H new h z Q
theorem clip_sIx (n d : Nat) (o : Option Int) : clip n d o = HT.sIx n d o := by cases o <;> rfl
theorem cut_str (s : List Nat) (lo hi : Option Int) : (⟨(cut s lo hi).toArray⟩ : PySem.Str) = cutS ⟨s.toArray⟩ lo hi := by
  unfold cut cutS
  simp only [clip_sIx]
  rfl
theorem cut_V {β : Bt} {H : Hp} {vs : List V} {xs : List Val} (rs : VRs L β H vs xs) (lo hi : Option Int) : VRs L β H (cutV vs lo hi) (cut xs lo hi) := by
  unfold cut cutV
  rw [clip_sIx, clip_sIx, ← rs.length]
  exact (rs.drop _).take _
theorem o_slice (hK : X.K = L.K) (new : Bool) : SlR X (rSli L new) := by
  intro pins s σ H x v vl vu lo hi sl Q I rx hs pl pu q
  obtain ⟨β, h, a, z, S, ra, e, k⟩ := q
  have lists : ∀ xs, seqOf h a = some xs → (∀ ys, a ≠ .tup ys) → z = .lst (cut xs lo hi) → ∃ T id, typeLookup (.type T) "__getitem__" = pure (some (.builtin id)) ∧ s.TypeIs v T ∧ wpAny (model X.prog X.w) X.A (getItem v (.ref sl)) (EP X pins σ Q) X.xe s := fun xs es nt ez => by
    subst ez
    cases ra with
    | lst ha _ rs => simp only [seqOf] at es; cases es; exact sl_list pins s σ H _ v vl vu lo hi sl Q I rx hs pl pu ⟨_, _, rfl, SqL.of ha, Want.lst S (cut_V rs lo hi) k⟩
    | arr ha rs => simp only [seqOf] at es; cases es; exact sl_list pins s σ H _ v vl vu lo hi sl Q I rx hs pl pu ⟨_, _, rfl, hK ▸ ha.sql, Want.lst S (cut_V rs lo hi) k⟩
    | tup ha rs => exact absurd rfl (nt _)
    | ref hb =>
      simp only [seqOf] at es
      split at es
      · rename_i ys q
        cases es
        obtain ⟨a', hb', vs, ha, rs⟩ := S.at q
        rw [hb] at hb'; cases hb'
        exact sl_list pins s σ H _ v vl vu lo hi sl Q I rx hs pl pu ⟨_, _, rfl, SqL.of ha, Want.lst S (cut_V rs lo hi) k⟩
      · cases es
    | _ => simp only [seqOf] at es; cases es
  unfold sliceV at e
  split at e
  · obtain ⟨hl, rfl⟩ := ite_some e
    cases ra
    refine sl_str pins s σ H _ v vl vu lo hi sl Q I rx hs pl pu ⟨_, rfl, ?_, ?_⟩
    · rw [← sizeL]; exact hl
    · rw [← cut_str]
      exact k _ _ _ .refl S (.str _)
  · rename_i xs
    cases e
    cases ra with
    | tup ha rs =>
      refine sl_tupA pins s σ H _ v vl vu lo hi sl Q I rx hs pl pu ⟨_, _, rfl, hK ▸ ha, fun w => ?_, fun w => fin_tup S (cut_V rs lo hi) k⟩
      have hw : cut xs lo hi = xs := by
        unfold cut
        rw [clip_sIx, clip_sIx, ← rs.length, w.1, w.2]
        simp only [Nat.sub_zero, List.drop_zero, rs.length, List.take_length]
      rw [hw] at k
      exact k _ _ _ .refl S (.tup ha rs)
  · rename_i h1 h2
    cases es : seqOf h a with
    | none => rw [es] at e; cases e
    | some xs => rw [es] at e; cases e; exact lists xs es (fun ys q => h2 ys q) rfl
/-- a part of a slice: lacking, or an int -/
def tPartI (L : Lk) (F : Fns) (W : WX) (ms : List E) : TO := fun σ H Q => ∃ (β : Bt) (h : Heap) (ρ : Env), Sim L β H h ∧ ER L β H σ ρ ∧ match evEs L.T F ms ρ h with
  | .ok vs h' => ∃ is, intsV vs = some is ∧ ∀ β' H', Ext β H β' H' → Sim L β' H' h' → Q is.head? H'
  | .exc x h' => ∀ cls d β' H', Ext β H β' H' → Sim L β' H' h' → ExR L H' cls d x → W cls d σ H'
  | .bad => False
theorem pwP {e : Option Expr} {t : TO} (k : ∀ pins s σ H Q, L2.Inv X pins σ H s → t σ H Q → ∃ t', PO X e t' ∧ t' σ H Q) : PO X e t :=
  ⟨fun pins s σ H Q I q => by obtain ⟨t', p, q'⟩ := k pins s σ H Q I q; exact p.run pins s σ H Q I q'⟩
theorem s_part0 : PO X none (tPartI L F W []) := by
  refine pwP fun pins s σ H Q I q => ⟨_, po_none, ?_⟩
  obtain ⟨β, h, ρ, S, R, p⟩ := q
  unfold evEs at p
  obtain ⟨is, e, k⟩ := p
  cases e
  exact k _ _ .refl S
theorem s_part1 {e : Expr} {m : E} (he : PE X e (tI L F W m)) : PO X (some e) (tPartI L F W [m]) := by
  refine pwP fun pins s σ H Q I q => ⟨_, po_some he, ?_⟩
  obtain ⟨β, h, ρ, S, R, p⟩ := q
  refine tI_of S R ?_
  unfold evEs at p
  cases ee : evE L.T F m ρ h with
  | ok v h' =>
    rw [ee] at p
    unfold evEs at p
    obtain ⟨is, e, k⟩ := p
    intro u β' H' x S' r
    cases v with
    | int i =>
      cases r
      cases e
      exact ⟨i, rfl, k β' H' x S'⟩
    | _ => cases e
  | exc x h' => rw [ee] at p; exact p
  | bad => rw [ee] at p; exact p
theorem s_slice {o : Expr} {lo hi : Option Expr} {mo : E} {ml mh : List E} {p2 pos : Pos} (hK : X.K = L.K) (new : Bool) (ho : PE X o (tI L F W mo)) (hl : PO X lo (tPartI L F W ml)) (hu : PO X hi (tPartI L F W mh)) :
    PE X (.Subscript o (.Slice lo hi none p2) pos) (tI L F W (.slice new mo ml mh)) := by
  refine pwE fun pins s σ H Q I q => ⟨_, pe_slice (o_slice (L := L) hK new) ho hl hu, ?_⟩
  obtain ⟨β, h, ρ, S, R, p⟩ := q
  unfold evE at p
  refine tI_of S R (Pst.first p fun v h1 u β1 H1 _ x1 S1 r1 p1 => ?_)
  refine ⟨β1, h1, ρ, S1, R.mono S x1, ?_⟩
  cases e1 : evEs L.T F ml ρ h1 with
  | ok l h2 =>
    rw [e1] at p1
    dsimp only [Out.bind] at p1
    cases i1 : intsV l with
    | none => rw [i1] at p1; exact p1.elim
    | some ls =>
      rw [i1] at p1
      dsimp only at p1
      refine ⟨ls, i1, fun β2 H2 x2 S2 => ⟨β2, h2, ρ, S2, (R.mono S x1).mono S1 x2, ?_⟩⟩
      cases e2 : evEs L.T F mh ρ h2 with
      | ok w h3 =>
        rw [e2] at p1
        dsimp only [Out.bind] at p1
        cases i2 : intsV w with
        | none => rw [i2] at p1; exact p1.elim
        | some us =>
          rw [i2] at p1
          refine ⟨us, i2, fun β3 H3 x3 S3 => ?_⟩
          have p3 := Pst.mono (x2.trans x3) p1
          have r3 := r1.mono S1 (x2.trans x3)
          dsimp only at p3
          split at p3
          · rename_i xs ez
            refine ⟨β3, h3, v, _, S3, r3, ez, ?_⟩
            unfold newL at p3
            split at p3
            · cases new with
              | true => exact p3
              | false => exact p3
            · exact p3.elim
          · rename_i z nz ez
            refine ⟨β3, h3, v, z, S3, r3, ez, ?_⟩
            cases z with
            | lst xs => exact absurd rfl (nz xs)
            | _ => exact p3
          · exact p3.elim
      | exc x h3 => rw [e2] at p1; exact fun c d β3 H3 x3 S3 r3 => p1 c d β3 H3 (x2.trans x3) S3 r3
      | bad => rw [e2] at p1; exact p1.elim
  | exc x h2 => rw [e1] at p1; exact p1
  | bad => rw [e1] at p1; exact p1
end
end MP

/-! Mp1e: calls -/
namespace MP
open PySem PySem.Spec PyProof.Rows L2

theorem plain_args {env : PySem.Env} {pos : Pos} : ∀ {es : List Expr}, es.all notStar = true → (backTo pos (starEach es env)).any (·.1) = false
  | [], _ => rfl
  | e :: es, h => by
    simp only [List.all_cons, Bool.and_eq_true] at h
    rw [starEach_of h.1]
    show (false || (backTo pos (starEach es env)).any (·.1)) = false
    rw [plain_args h.2]; rfl
theorem plain_few {env : PySem.Env} {pos : Pos} : ∀ {es : List Expr}, es.all notStar = true → (backTo pos (starEach es env)).all (fun x => !x.1) = true
  | [], _ => rfl
  | e :: es, h => by
    simp only [List.all_cons, Bool.and_eq_true] at h
    rw [starEach_of h.1]
    show (true && (backTo pos (starEach es env)).all (fun x => !x.1)) = true
    rw [plain_few h.2]; rfl
/-- keywords all named -/
def kwNames : List Keyword → Option (List PySem.Str)
  | [] => some []
  | ⟨some n, _, _⟩ :: r => (kwNames r).map (n :: ·)
  | _ => none
theorem kw_all {env : PySem.Env} {pos : Pos} : ∀ {kws : List Keyword} {ks : List PySem.Str}, kwNames kws = some ks → (backToKw pos (keywordEach kws env)).all (·.1.isSome) = true ∧ (backToKw pos (keywordEach kws env)).filterMap (·.1) = ks ∧
    (backToKw pos (keywordEach kws env)).any (·.1.isNone) = false
  | [], ks, h => by cases h; exact ⟨rfl, rfl, rfl⟩
  | ⟨some n, e, p⟩ :: r, ks, h => by
    obtain ⟨ks', h', rfl⟩ := Option.map_eq_some_iff.mp (show (kwNames r).map (n :: ·) = some ks from h)
    obtain ⟨a, b, c⟩ := kw_all (env := env) (pos := pos) h'
    refine ⟨?_, ?_, ?_⟩
    · show (true && (backToKw pos (keywordEach r env)).all (·.1.isSome)) = true
      rw [a]; rfl
    · show n :: (backToKw pos (keywordEach r env)).filterMap (·.1) = n :: ks'
      rw [b]
    · show (false || (backToKw pos (keywordEach r env)).any (·.1.isNone)) = false
      rw [c]; rfl
  | ⟨none, _, _⟩ :: _, _, h => by cases h
theorem Pst.stop {L : Lk} {β : Bt} {H : Hp} {o : Out Val} {f : Val → Heap → Out Val} {Q : VK} {E : XK} (p : Pst L β H o Q E) (e : ∀ v h, o = .ok v h → f v h = .ok v h) : Pst L β H (o.bind f) Q E := by
  cases o with
  | ok v h => show Pst L β H (f v h) Q E; rw [e v h rfl]; exact p
  | exc x h => exact p
  | bad => exact p
theorem evEs_append (T : Tb) (F : Fns) (ρ : Env) : ∀ (as bs : List E) (h : Heap), evEs T F (as ++ bs) ρ h = (evEs T F as ρ h).bind fun vs h1 => (evEs T F bs ρ h1).bind fun us h2 => .ok (vs ++ us) h2
  | [], bs, h => by
    rw [evEs_nil]
    show evEs T F bs ρ h = (evEs T F bs ρ h).bind fun us h2 => .ok us h2
    cases evEs T F bs ρ h <;> rfl
  | a :: as, bs, h => by
    rw [List.cons_append, evEs_cons, evEs_cons]
    cases evE T F a ρ h with
    | ok v h1 =>
      dsimp only [Out.bind]
      rw [evEs_append T F ρ as bs h1]
      cases evEs T F as ρ h1 with
      | ok vs h2 =>
        dsimp only [Out.bind]
        cases evEs T F bs ρ h2 <;> rfl
      | exc x h2 => rfl
      | bad => rfl
    | exc x h1 => rfl
    | bad => rfl

section
variable {X : Cx} {L : Lk} {F : Fns} {W : WX} {lv : Nat}
/-- f(..), f a def of the module -/
theorem s_call {x : PySem.Str} {k : Nat} {es : List Expr} {ms : List E} {p pos : Pos} (G : Gd X L W lv) (hz : es = [] → ms = []) (hs : es.all notStar = true) (hg : Gl X x) (hm : X.mg x = some (.ref (L.fa k))) (hdb : (x == ("__debug__" : PySem.Str)) = false)
    (pf : PlainFn X.prog X.w X.K X.mg X.base L F lv k) (ha : PA X es (tIs L F W ms)) : PE X (.Call (.Name x p) es [] pos) (tI L F W (.call k ms)) := by
  obtain ⟨fd, ps, Fk, hb, kp⟩ := pf
  refine ⟨fun pins s σ H Q I q => ?_⟩
  obtain ⟨β, h, ρ, S, R, p0⟩ := q
  unfold evE at p0
  refine wpAny_Call_Name_kw (ld_glob I hg hm ?_ hdb)
  cases es with
  | nil =>
    rw [hz rfl] at p0
    unfold evEs at p0
    exact PySem.W.callWith_K0 I.kIn kp (run_fnS (E := WE W) (us := []) Fk G.hr hb (passAt G.tk σ) I .nil ⟨L.pv, β, h, [], S, .nil, p0⟩)
  | cons e es =>
    have ta : tIs L F W ms σ H (fun vs H1 => spF L F k vs H1 Q (WE W σ)) := tIs_of S R (Pst.firsts p0 fun vs h1 us β1 H1 _ x1 S1 r1 p1 => ⟨L.pv, β1, h1, vs, S1, r1, p1⟩)
    simp only [List.all_cons, Bool.and_eq_true] at hs
    refine PySem.W.callWith_K (h₀ := X.base) I.ok.mod.kin kp (thn (ha.run pos pins s σ H _ I ta) fun us s1 ⟨vs, H1, I1, r, q⟩ => ⟨I1.kIn, ?_⟩) (starEach_of hs.1) (plain_args hs.2)
    exact run_fnS (E := WE W) Fk G.hr hb (passAt G.tk σ) I1 r q
/-! ### keywords and defaults -/
theorem run_fnkS {k n : Nat} {f : Addr} {fd : FuncData} {ps ks : List PySem.Str} {sp : Sp} {E : L2.St → XK} {g : List Value → List Value → List Value} {gV : List V → List V → List V} {pins : List (Addr × Obj)} {σ : L2.St} {H : Hp} {s : Shared} {Q : VK} {us ws : List Value} {vs zs : List V}
    (Fk : FnOk X.prog X.w X.K X.mg X.base (L2.CX X.prog X.w) k f fd ps sp) (hr : Room k X.A) (hb : KBn X.K fd ps n ks g gV) (hx : PassesAt (L2.CX X.prog X.w) X σ (E σ)) (I : L2.Inv X pins σ H s) (r : Vals vs us) (rz : Vals zs ws) (l1 : vs.length = n) (l2 : zs.length = ks.length)
    (h : sp (gV vs zs) H Q (E σ)) : wpAny (model X.prog X.w) X.A (call (.ref f) us (ks.zip ws)) (EP X pins σ Q) X.xe s := by
  have r2 := hb.rel r rz
  refine wpAny_call (codeAny_mono (Fk.run X.A X.stack s H ⟨us, ks.zip ws⟩ (g us ws) (gV vs zs) Q (E σ) hr I.env0 (hb.to s us ws I.kIn (r.length.symm.trans l1) (rz.length.symm.trans l2)) r2 h) fun r s' hq => ?_)
  cases r with
  | error e => exact hx pins H s e s' I hq
  | ok fl =>
    cases fl with
    | ret u => exact I.after hq
    | next => exact False.elim hq
    | brk => exact False.elim hq
    | cont => exact False.elim hq
theorem s_kcons {nm : Option PySem.Str} {e : Expr} {kp : Pos} {kws : List Keyword} {m : E} {ms : List E} (he : PE X e (tI L F W m)) (hr : PK X kws (tIs L F W ms)) : PK X (⟨nm, e, kp⟩ :: kws) (tIs L F W (m :: ms)) := by
  refine ⟨fun pos pins s σ H Q I q => (pk_cons he hr).run pos pins s σ H Q I ?_⟩
  obtain ⟨β, h, ρ, S, R, p⟩ := q
  unfold evEs at p
  refine tI_of S R (Psts.first p fun v h1 u β1 H1 _ x1 S1 r1 p1 => ?_)
  refine tIs_of S1 (R.mono S x1) (Psts.firsts p1 fun vs h2 us β2 H2 _ x2 S2 r2 p2 => ?_)
  exact p2 _ _ _ .refl S2 (.cons (r1.mono S1 x2) r2)
theorem s_knil : PK X [] (tIs L F W []) := ⟨fun pos pins s σ H Q I ⟨β, h, ρ, S, R, p⟩ => pk_nil.run pos pins s σ H Q I (p _ _ _ .refl S .nil)⟩
/-- f(e, .., k = v, ..) -/
theorem s_callK {x : PySem.Str} {k n : Nat} {e : Expr} {es : List Expr} {kws : List Keyword} {ks : List PySem.Str} {ms mk : List E} {b : List Bd} {p pos : Pos} (G : Gd X L W lv) (hs : (e :: es).all notStar = true) (hkn : kwNames kws = some ks) (ln : ms.length = n) (lk : mk.length = ks.length)
    (hg : Gl X x) (hm : X.mg x = some (.ref (L.fa k))) (hdb : (x == ("__debug__" : PySem.Str)) = false)
    (pf : KwFn X.prog X.w X.K X.mg X.base L F lv k n ks b) (ha : PA X (e :: es) (tIs L F W ms)) (hk : PK X kws (tIs L F W mk)) : PE X (.Call (.Name x p) (e :: es) kws pos) (tI L F W (.callK k (ms ++ mk) b)) := by
  obtain ⟨fd, ps, g, gV, Fk, hb, kp, hV⟩ := pf
  refine ⟨fun pins s σ H Q I q => ?_⟩
  obtain ⟨β, h, ρ, S, R, p0⟩ := q
  unfold evE at p0
  rw [evEs_append] at p0
  refine wpAny_Call_Name_kw (ld_glob I hg hm ?_ hdb)
  simp only [List.all_cons, Bool.and_eq_true] at hs
  obtain ⟨k1, k2, k3⟩ := kw_all (env := X.env) (pos := pos) hkn
  have lenE : ∀ (ms : List E) (h : Heap) vs h', evEs L.T F ms ρ h = .ok vs h' → vs.length = ms.length := by
    intro ms
    induction ms with
    | nil => intro h vs h' q; unfold evEs at q; cases q; rfl
    | cons a as ih =>
      intro h vs h' q
      unfold evEs at q
      cases e1 : evE L.T F a ρ h with
      | ok v h1 =>
        rw [e1] at q
        dsimp only [Out.bind] at q
        cases e2 : evEs L.T F as ρ h1 with
        | ok us h2 =>
          rw [e2] at q
          dsimp only [Out.bind] at q
          cases q
          exact congrArg Nat.succ (ih _ _ _ e2)
        | exc _ _ => rw [e2] at q; cases q
        | bad => rw [e2] at q; cases q
      | exc _ _ => rw [e1] at q; cases q
      | bad => rw [e1] at q; cases q
  have assoc : ∀ (o : Out (List Val)) (f : List Val → Heap → Out (List Val)) (k' : List Val → Heap → Out Val), (o.bind f).bind k' = o.bind fun v h => (f v h).bind k' := fun o f k' => by cases o <;> rfl
  rw [assoc] at p0
  have ta : tIs L F W ms σ H (fun vs H1 => vs.length = n ∧ tIs L F W mk σ H1 fun zs H2 => zs.length = ks.length ∧ spF L F k (gV vs zs) H2 Q (WE W σ)) :=
    tIs_of S R (Pst.firsts p0 fun vs h1 us β1 H1 e1 x1 S1 r1 p1 => by
      have l1 : us.length = n := by rw [r1.length, lenE _ _ _ _ e1, ln]
      refine ⟨l1, tIs_of S1 (R.mono S x1) ?_⟩
      rw [assoc] at p1
      refine Pst.firsts p1 fun zs h2 ws β2 H2 e2 x2 S2 r2 p2 => ?_
      have l2 : ws.length = ks.length := by rw [r2.length, lenE _ _ _ _ e2, lk]
      refine ⟨l2, ?_⟩
      dsimp only [Out.bind] at p2
      cases eb : bindBd (vs ++ zs) b with
      | none => rw [eb] at p2; exact p2.elim
      | some args =>
        rw [eb] at p2
        exact ⟨L.pv, β2, h2, args, S2, hV _ _ _ _ _ _ _ _ S2 ((r1.mono S1 x2).append r2) l1 l2 eb, p2⟩)
  refine PySem.W.callWith_KW (h₀ := X.base) I.ok.mod.kin kp k1 (thn (ha.run pos pins s σ H _ I ta) fun us s1 ⟨vs, H1, I1, r, l1, q⟩ => ?_) ?_ (starEach_of hs.1)
  · refine thn (hk.run pos pins s1 σ H1 _ I1 q) fun ws s2 ⟨zs, H2, I2, rz, l2, q2⟩ => ⟨I2.kIn, ?_⟩
    rw [k2]
    exact run_fnkS (E := WE W) Fk G.hr hb (passAt G.tk σ) I2 r rz l1 l2 q2
  · rw [starEach_of hs.1]
    show ((false || (backTo pos (starEach es X.env)).any (·.1)) || (backToKw pos (keywordEach kws X.env)).any (·.1.isNone)) = false
    rw [plain_args hs.2, k3]; rfl

/-! ### C(..) -/
theorem run_makeS {k : Nat} {f C : Addr} {fd : FuncData} {ps : List PySem.Str} {sp : Sp} {E : L2.St → XK} {pins : List (Addr × Obj)} {σ : L2.St} {H : Hp} {s : Shared} {Q : VK} {us : List Value} {vs : List V}
    (M : Mk X.K C f) (Fk : FnOk X.prog X.w X.K X.mg X.base (L2.CX X.prog X.w) k f fd ps sp) (hr : Room (k + 1) X.A) (hb : Binds X.K fd ps []) (hx : PassesAt (L2.CX X.prog X.w) X σ (E σ)) (I : L2.Inv X pins σ H s) (r : Vals vs us)
    (h : ∀ x dx, H x = none → H dx = none → dx ≠ x → sp (.ref x :: vs) (upd (upd H dx (.own x)) x (.ins C dx [])) (fun v H2 => v = .non ∧ Q (.ref x) H2) (E σ)) :
    wpAny (model X.prog X.w) X.A (call (.ref C) us) (EP X pins σ Q) X.xe s := by
  have hq := h (s.heap.objs.size + 1) s.heap.objs.size (I.hok.fresh (Nat.le_succ _)) (I.hok.fresh (Nat.le_refl _)) (Nat.ne_of_lt (Nat.lt_succ_self _))
  have I2 := Inv.made (C := C) I
  have r2 : Vals (V.ref (s.heap.objs.size + 1) :: vs) (Value.ref (s.heap.objs.size + 1) :: us) := .cons rfl r
  have hl : (Value.ref (s.heap.objs.size + 1) :: us).length = ps.length := by rw [← r2.length]; exact Fk.len _ _ _ _ hq
  have b := hb _ (Value.ref (s.heap.objs.size + 1) :: us) I2.kIn (by rw [List.append_nil]; exact hl)
  rw [List.append_nil] at b
  refine wpAny_call (make_map (f := f) I.kIn M.makes M.init (beq_iff_eq.mp M.fn) (codeAny_mono (Fk.run _ X.stack _ _ ⟨Value.ref (s.heap.objs.size + 1) :: us, []⟩ (Value.ref (s.heap.objs.size + 1) :: us) _ _ (E σ) (hr.make C us [])
    (I2.env0.make C us []) b r2 hq) fun r s' hq' => ?_))
  cases r with
  | error e => exact hx pins _ _ e s' I2 hq'
  | ok fl =>
    cases fl with
    | ret u =>
      obtain ⟨v, H', I3, rv, ev, q3⟩ := I2.after hq'
      subst ev
      exact ⟨rv, ⟨V.ref (s.heap.objs.size + 1), H', I3, rfl, q3⟩⟩
    | next => exact False.elim hq'
    | brk => exact False.elim hq'
    | cont => exact False.elim hq'
theorem make_sp {β : Bt} {H : Hp} {h : Heap} {c k : Nat} {vs : List V} {args : List Val} {Q : VK} {E : XK} (K0 : Lf X.K L) (S : Sim L β H h) (r : VRs L β H vs args) (ic : L.T.isC c = true) (hi : L.T.init c = some k) (p : Pst L β H (makeV L.T F c args h) Q E) :
    ∀ x dx, H x = none → H dx = none → dx ≠ x → spF L F k (.ref x :: vs) (upd (upd H dx (.own x)) x (.ins (L.ca c) dx [])) (fun v H2 => v = .non ∧ Q (.ref x) H2) E := by
  intro x dx hx hdx hne
  unfold makeV at p
  rw [ic, hi] at p
  dsimp only at p
  have S1 : Sim L β (upd H dx (.own x)) h := S.laid hdx
  have x1 : Ext β H β (upd H dx (.own x)) := Ext.laid S hdx
  have hx1 : (upd H dx (.own x)) x = none := by rw [upd_ne (Ne.symm hne)]; exact hx
  have x2 : Ext β (upd H dx (.own x)) (bnd β h.n x) (upd (upd H dx (.own x)) x (.ins (L.ca c) dx [])) := Ext.bound S1 hx1
  have S2 : Sim L (bnd β h.n x) (upd (upd H dx (.own x)) x (.ins (L.ca c) dx [])) (h.push (.ins c [])) := S1.push (c := .ins c []) hx1 ⟨ic, (fun p hp => by cases hp), dx, [], upd_same, FR.nil⟩
  refine ⟨L.pv, _, _, .ref h.n :: args, S2, .cons (.ref bnd_same) (r.mono S (x1.trans x2)), ?_⟩
  have p1 := Pst.mono (x1.trans x2) p
  refine Pst.first p1 fun v h3 u β3 H3 e3 x3 S3 r3 p3 => ?_
  cases v with
  | non =>
    cases r3
    exact ⟨rfl, p3 _ _ _ .refl S3 (.ref (x3.keep _ _ bnd_same))⟩
  | _ => exact p3.elim
theorem s_make {x : PySem.Str} {c k : Nat} {es : List Expr} {ms : List E} {p pos : Pos} (G : Gd X L W (lv + 1)) (K0 : Lf X.K L) (hz : es = [] → ms = []) (hs : es.all notStar = true) (hg : Gl X x) (hm : X.mg x = some (.ref (L.ca c))) (hdb : (x == ("__debug__" : PySem.Str)) = false)
    (ic : L.T.isC c = true) (hi : L.T.init c = some k) (pf : PlainFn X.prog X.w X.K X.mg X.base L F lv k) (ha : PA X es (tIs L F W ms)) : PE X (.Call (.Name x p) es [] pos) (tI L F W (.make c ms)) := by
  obtain ⟨fd, ps, Fk, hb, kp⟩ := pf
  have M := K0.init c k ic hi
  refine ⟨fun pins s σ H Q I q => ?_⟩
  obtain ⟨β, h, ρ, S, R, p0⟩ := q
  unfold evE at p0
  refine wpAny_Call_Name_kw (ld_glob I hg hm ?_ hdb)
  cases es with
  | nil =>
    rw [hz rfl] at p0
    unfold evEs at p0
    exact PySem.W.callWith_K0 I.kIn M.kp (run_makeS (E := WE W) (us := []) M Fk G.hr hb (passAt G.tk σ) I .nil (make_sp K0 S .nil ic hi p0))
  | cons e es =>
    have ta : tIs L F W ms σ H (fun vs H1 => ∃ β1 h1 args, Sim L β1 H1 h1 ∧ VRs L β1 H1 vs args ∧ Pst L β1 H1 (makeV L.T F c args h1) Q (WE W σ)) := tIs_of S R (Pst.firsts p0 fun vs h1 us β1 H1 _ x1 S1 r1 p1 => ⟨β1, h1, vs, S1, r1, p1⟩)
    simp only [List.all_cons, Bool.and_eq_true] at hs
    refine PySem.W.callWith_K (h₀ := X.base) I.ok.mod.kin M.kp (thn (ha.run pos pins s σ H _ I ta) fun us s1 ⟨vs, H1, I1, r, β1, h1, args, S1, r1, q⟩ => ⟨I1.kIn, ?_⟩) (starEach_of hs.1) (plain_args hs.2)
    exact run_makeS (E := WE W) M Fk G.hr hb (passAt G.tk σ) I1 r (make_sp K0 S1 r1 ic hi q)

/-! ### o.m(..), m a def of the instance's class -/
theorem mcall_eq {o : Expr} {m : PySem.Str} {apos pos : Pos} {es : List Expr} (hn : notSuper o = true) (hl : (apos.endLine == pos.line) = true) (hs : es.all notStar = true) (hc : es.length < 30) :
    eval (.Call (.Attribute o m apos) es [] pos) X.env = (do
      let ov ← eval o X.env
      standAt apos.atName
      let (f, first) ← holding [ov] (getMethod ov m (plainOf o X.env))
      callWith pos f first (backTo pos (starEach es X.env)) (backToKw pos (keywordEach [] X.env))) :=
  mcall_of (base_of hn) fun ov => mcall_line (by
    show ((backTo pos (starEach es X.env)).all (fun x => !x.1) && true && decide (es.length + 0 + 0 < 30)) = true
    rw [plain_few hs, Bool.true_and, Bool.true_and]
    exact decide_eq_true (by omega)) hl
theorem s_meth {o : Expr} {m : Nat} {mo : E} {es : List Expr} {ms : List E} {apos pos : Pos} (G : Gd X L W lv) (K0 : Lf X.K L) (hz : es = [] → ms = []) (hn : notSuper o = true) (hl : (apos.endLine == pos.line) = true) (hs : es.all notStar = true) (hc : es.length < 30) (ho : PE X o (tI L F W mo)) (ha : PA X es (tIs L F W ms))
    (pf : ∀ c k, L.T.isC c = true → L.T.meth c m = some k → PlainFn X.prog X.w X.K X.mg X.base L F lv k) : PE X (.Call (.Attribute o (L.nm m) apos) es [] pos) (tI L F W (.meth mo m ms)) := by
  refine ⟨fun pins s σ H Q I q => ?_⟩
  obtain ⟨β, h, ρ, S, R, p0⟩ := q
  unfold evE at p0
  refine PySem.W.methodCall_KW (pl := plainOf o X.env) (thn (ho.run pins s σ H (fun x H1 => ∃ β1 h1 r c fs k a, Sim L β1 H1 h1 ∧ ER L β1 H1 σ ρ ∧ x = .ref a ∧ β1 r = some a ∧ h1.c r = some (.ins c fs) ∧ lookF fs m = none ∧ L.T.meth c m = some k ∧
    Pst L β1 H1 ((evEs L.T F ms ρ h1).bind fun vs h => F k (.ref r :: vs) h) Q fun c d H' => W c d σ H') I
    (tI_of S R (Pst.first p0 fun v h1 u β1 H1 e1 x1 S1 r1 p1 => ?_))) fun u s1 ⟨x, H1, I1, rx, β1, h1, r, c, fs, k, a, S1, R1, ex, eb, ec, el, em, p1⟩ => ?_) (mcall_eq hn hl hs hc)
  · clear e1
    split at p1
    · rename_i r
      split at p1
      · rename_i c fs ec
        split at p1
        · rename_i k el em
          cases r1 with
          | ref hb => exact ⟨β1, h1, r, c, fs, k, _, S1, R.mono S x1, rfl, hb, ec, el, em, p1⟩
        · exact p1.elim
      · exact p1.elim
    · exact p1.elim
  · subst ex
    cases rx
    obtain ⟨ic, fo, dx, ps0, hH, fr⟩ := ins_at S1 eb ec
    obtain ⟨fd, ps, Fk, hb, kp⟩ := pf c k ic em
    have hm := K0.meth c m k ic em
    refine getmeth_ok I1 hH (K0.cls c ic) hm ((fr.look K0.inj m).2 el) ?_
    cases es with
    | nil =>
      rw [hz rfl] at p1
      unfold evEs at p1
      exact PySem.W.callWith_K0 (first := [.ref a]) I1.kIn hm.kp (run_fnS (E := WE W) (us := [.ref a]) (vs := [.ref a]) Fk G.hr hb (passAt G.tk σ) I1 (.cons rfl .nil) ⟨L.pv, β1, h1, [.ref r], S1, .cons (.ref eb) .nil, p1⟩)
    | cons e es =>
      have ta : tIs L F W ms σ H1 (fun vs H2 => spF L F k (.ref a :: vs) H2 Q (WE W σ)) := tIs_of S1 R1 (Pst.firsts p1 fun vs h2 us β2 H2 _ x2 S2 r2 p2 => ⟨L.pv, β2, h2, .ref r :: vs, S2, .cons (.ref (x2.keep _ _ eb)) r2, p2⟩)
      simp only [List.all_cons, Bool.and_eq_true] at hs
      refine PySem.W.callWith_K (first := [.ref a]) (h₀ := X.base) I.ok.mod.kin hm.kp (thn (ha.run pos pins s1 σ H1 _ I1 ta) fun us s2 ⟨vs, H2, I2, r2, q2⟩ => ⟨I2.kIn, ?_⟩) (starEach_of hs.1) (plain_args hs.2)
      exact run_fnS (E := WE W) (us := .ref a :: us) (vs := .ref a :: vs) Fk G.hr hb (passAt G.tk σ) I2 (.cons rfl r2) q2

/-! ### a call of a name that holds a def -/
theorem s_callV {i : Nat} {x : PySem.Str} {e : Expr} {es : List Expr} {ms : List E} {p pos : Pos} (G : Gd X L W lv) (hs : (e :: es).all notStar = true) (hN : X.N[i]? = some x) (hv : Vis X.env.scope x) (hdb : (x == ("__debug__" : PySem.Str)) = false) (hcd : (x == ("__classdict__" : PySem.Str)) = false)
    (pf : ∀ k, L.T.val k = true → PlainFn X.prog X.w X.K X.mg X.base L F lv k) (ha : PA X (e :: es) (tIs L F W ms)) : PE X (.Call (.Name x p) (e :: es) [] pos) (tI L F W (.callV i ms)) := by
  refine ⟨fun pins s σ H Q I q => ?_⟩
  obtain ⟨β, h, ρ, S, R, p0⟩ := q
  unfold evE at p0
  split at p0
  · rename_i k ek
    obtain ⟨u, eu, ru⟩ := R.get i _ ek
    cases ru
    simp only [List.all_cons, Bool.and_eq_true] at hs
    split at p0
    · rename_i hv1
      obtain ⟨fd, ps, Fk, hb, kp⟩ := pf k hv1
      have ta : tIs L F W ms σ H (fun vs H1 => spF L F k vs H1 Q (WE W σ)) := tIs_of S R (Pst.firsts p0 fun vs h1 us β1 H1 _ x1 S1 r1 p1 => ⟨L.pv, β1, h1, vs, S1, r1, p1⟩)
      refine wpAny_Call_Name_kw (thn ((pe_var (pos := p) hN hv hdb hcd).run pins s σ H (fun v H1 => v = .ref (L.fa k) ∧ H1 = H) I ⟨.ref (L.fa k), eu, rfl, rfl⟩) fun u s1 ⟨v, H1, I1, r1, q1⟩ => ?_)
      obtain ⟨rfl, rfl⟩ := q1
      cases r1
      refine PySem.W.callWith_K (h₀ := X.base) I.ok.mod.kin kp (thn (ha.run pos pins s1 σ _ _ I1 ta) fun us s2 ⟨vs, H2, I2, r, q⟩ => ⟨I2.kIn, ?_⟩) (starEach_of hs.1) (plain_args hs.2)
      exact run_fnS (E := WE W) Fk G.hr hb (passAt G.tk σ) I2 r q
    · exact p0.elim
  · exact p0.elim
end
end MP

/-! Mp1f: built-in functions, methods of lists and texts, isinstance -/
namespace MP
open PySem PySem.Spec PyProof.Rows L2

theorem pwC {X : Cx} {f : Value} {r : List V → Hp → VK → Prop} (k : ∀ pins s σ H xs Q, L2.Inv X pins σ H s → r xs H Q → ∃ r', CallR X f r' ∧ r' xs H Q) : CallR X f r := by
  intro pins s σ H xs us Q I r1 h
  obtain ⟨r', c, q⟩ := k pins s σ H xs Q I h
  exact c pins s σ H xs us Q I r1 q
theorem pwM {X : Cx} {id : String} {r : V → List V → Hp → VK → Prop} (k : ∀ pins s σ H x xs Q, L2.Inv X pins σ H s → r x xs H Q → ∃ r', MtR X id r' ∧ r' x xs H Q) : MtR X id r := by
  intro pins s σ H x xs v us Q I rx r1 h
  obtain ⟨r', c, q⟩ := k pins s σ H x xs Q I h
  exact c pins s σ H x xs v us Q I rx r1 q

section
variable {L : Lk} {β : Bt} {H : Hp} {h : Heap}
theorem ints_of : ∀ {xs : List Val} {is : List Int} {vs : List V}, intsV xs = some is → VRs L β H vs xs → vs = is.map V.int
  | [], _, _, e, .nil => by cases e; rfl
  | x :: xs, is, _, e, .cons r t => by
    cases x with
    | int i =>
      obtain ⟨js, ej, rfl⟩ := Option.map_eq_some_iff.mp (show (intsV xs).map (i :: ·) = some is from e)
      cases r
      rw [ints_of ej t]; rfl
    | _ => cases e
theorem bools_of : ∀ {xs : List Val} {is : List Bool} {vs : List V}, boolsV xs = some is → VRs L β H vs xs → vs = is.map V.bl
  | [], _, _, e, .nil => by cases e; rfl
  | x :: xs, is, _, e, .cons r t => by
    cases x with
    | bl i =>
      obtain ⟨js, ej, rfl⟩ := Option.map_eq_some_iff.mp (show (boolsV xs).map (i :: ·) = some is from e)
      cases r
      rw [bools_of ej t]; rfl
    | _ => cases e
def tx (s : List Nat) : PySem.Str := ⟨s.toArray⟩
theorem texts_of : ∀ {xs : List Val} {is : List (List Nat)} {vs : List V}, textsV xs = some is → VRs L β H vs xs → vs = (is.map tx).map V.str
  | [], _, _, e, .nil => by cases e; rfl
  | x :: xs, is, _, e, .cons r t => by
    cases x with
    | str i =>
      obtain ⟨js, ej, rfl⟩ := Option.map_eq_some_iff.mp (show (textsV xs).map (i :: ·) = some is from e)
      cases r
      rw [texts_of ej t]; rfl
    | _ => cases e
theorem maxI_of : ∀ {is : List Int} {m : Int}, maxI is = some m → 0 < is.length ∧ m ∈ is ∧ ∀ y ∈ is, y ≤ m
  | [], _, e => by cases e
  | [i], m, e => by cases e; exact ⟨Nat.one_pos, by simp, by simp⟩
  | i :: j :: r, m, e => by
    obtain ⟨k, ek, rfl⟩ := Option.map_eq_some_iff.mp (show (maxI (j :: r)).map (fun m => max i m) = some m from e)
    obtain ⟨_, h2, h3⟩ := maxI_of ek
    refine ⟨Nat.succ_pos _, ?_, fun y hy => ?_⟩
    · rcases Int.le_total i k with q | q
      · rw [show max i k = k by omega]; exact List.mem_cons_of_mem _ h2
      · rw [show max i k = i by omega]; exact List.mem_cons_self
    · rcases List.mem_cons.mp hy with rfl | hy
      · omega
      · have := h3 y hy; omega
theorem minI_of : ∀ {is : List Int} {m : Int}, minI is = some m → 0 < is.length ∧ m ∈ is ∧ ∀ y ∈ is, m ≤ y
  | [], _, e => by cases e
  | [i], m, e => by cases e; exact ⟨Nat.one_pos, by simp, by simp⟩
  | i :: j :: r, m, e => by
    obtain ⟨k, ek, rfl⟩ := Option.map_eq_some_iff.mp (show (minI (j :: r)).map (fun m => min i m) = some m from e)
    obtain ⟨_, h2, h3⟩ := minI_of ek
    refine ⟨Nat.succ_pos _, ?_, fun y hy => ?_⟩
    · rcases Int.le_total i k with q | q
      · rw [show min i k = i by omega]; exact List.mem_cons_self
      · rw [show min i k = k by omega]; exact List.mem_cons_of_mem _ h2
    · rcases List.mem_cons.mp hy with rfl | hy
      · omega
      · have := h3 y hy; omega
end
theorem intText_eq (i : Int) : (Str.ofString (toString i)) = tx (intText i) := by
  cases i with
  | ofNat n =>
    have e : intText (Int.ofNat n) = digits n := by
      unfold intText
      rw [if_neg (by simp)]; rfl
    rw [e]
    exact TL.ext_tl (TL.tl_num n)
  | negSucc n =>
    have e : intText (Int.negSucc n) = 45 :: digits (n + 1) := by
      unfold intText
      rw [if_pos (Int.negSucc_lt_zero n)]; rfl
    rw [e]
    have e2 := TL.tl_num (n + 1)
    refine TL.ext_tl ?_
    show (Str.ofString (toString (Int.negSucc n))).cps.toList = _
    have e3 : toString (Int.negSucc n) = "-" ++ toString (((n + 1 : Nat)) : Int) := rfl
    have e4 : ∀ a b : String, (Str.ofString (a ++ b)).cps.toList = (Str.ofString a).cps.toList ++ (Str.ofString b).cps.toList := fun a b => by
      rw [PyProof.Rows.signs_ofString, PyProof.Rows.signs_ofString, PyProof.Rows.signs_ofString, String.toList_append, List.map_append]
    rw [e3, e4]
    show _ ++ TL.tl (Str.ofString (toString (((n + 1 : Nat)) : Int))) = _
    rw [e2]
    rfl
theorem join_eq (s : List Nat) : ∀ ts : List (List Nat), PySem.Str.join (tx s) (ts.map tx) = tx (joinT s ts)
  | [] => rfl
  | [x] => rfl
  | x :: y :: r => by
    show tx x ++ tx s ++ PySem.Str.join (tx s) ((y :: r).map tx) = _
    rw [join_eq s (y :: r)]
    show (⟨_⟩ : PySem.Str) ++ ⟨_⟩ ++ ⟨_⟩ = _
    rw [str_app, str_app]; rfl
theorem sumLen_eq : ∀ ts : List (List Nat), ((ts.map tx).map (·.length)).sum = sumLen ts
  | [] => rfl
  | x :: r => by
    simp only [List.map_cons, List.sum_cons, sumLen]
    rw [sumLen_eq r]; rfl

def bfNm : Bf → PySem.Str
  | .len => "len" | .max => "max" | .min => "min" | .sum => "sum" | .all => "all" | .any => "any" | .int => "int" | .str => "str" | .list => "list" | .tuple => "tuple" | .sorted => "sorted"
def bfTy : Bf → Bool
  | .int | .str | .list | .tuple => true
  | _ => false
def bfId : Bf → String
  | .len => "len" | .max => "max" | .min => "min" | .sum => "sum" | .all => "all" | .any => "any" | .int => "int" | .str => "str" | .list => "list" | .tuple => "tuple" | .sorted => "sorted"
def bfVal (f : Bf) : Value := if bfTy f then .type (bfId f) else .builtin (bfId f)
def rBf (L : Lk) (f : Bf) (new : Bool) : List V → Hp → VK → Prop := fun vs H Q => ∃ (β : Bt) (h : Heap) (args : List Val) (z : Val), Sim L β H h ∧ VRs L β H vs args ∧ bfV h f args = some z ∧ Want L β H new h z Q

section
variable {X : Cx} {L : Lk}
theorem o_len_dict (hu : True) : CallR X (.builtin "len") (fun xs H Q => ∃ a kvs, xs = [.ref a] ∧ Rd H a (.dK kvs) ∧ Q (.int kvs.length) H) := by
  intro pins s σ H xs us Q I r h
  obtain ⟨a, kvs, rfl, e, q⟩ := h
  obtain ⟨u, rfl, rx⟩ := vals1 r
  cases rx
  exact d_len I e fun t s' I' => ⟨.int _, H, I', ⟨_, rfl⟩, q⟩
theorem o_len (hK : X.K = L.K) (new : Bool) : CallR X (.builtin "len") (rBf L .len new) := by
  refine pwC fun pins s σ H xs Q I q => ?_
  obtain ⟨β, h, args, z, S, rs, e, k⟩ := q
  have seqs : ∀ b v ys, VR L β H v b → seqOf h b = some ys → z = .int ys.length → xs = [v] → ∃ r', CallR X (.builtin "len") r' ∧ r' xs H Q := fun b v ys rv es ez ex => by
    subst ez ex
    obtain ⟨a, vs, rfl, rr, hs⟩ := seq_of S rv es
    refine ⟨_, call_len, _, ys.length, rfl, ?_, k _ _ _ .refl S (.int _)⟩
    rcases hs with hs | hs
    · exact .inl ⟨vs, hK ▸ hs, rr.length.symm⟩
    · exact .inr ⟨vs, hK ▸ hs, rr.length.symm⟩
  unfold bfV at e
  split at e
  · rename_i t _
    obtain ⟨hl, rfl⟩ := ite_some e
    cases rs with
    | cons r t' =>
      cases t'
      cases r
      refine ⟨_, call_len, _, t.length, rfl, ⟨?_, rfl⟩, k _ _ _ .refl S (.int _)⟩
      rw [← sizeL]; exact hl
  · rename_i r
    cases rs with
    | cons rv t' =>
      cases t'
      split at e
      · rename_i ys q
        cases e
        exact seqs _ _ ys rv (by simp only [seqOf, q]) rfl rfl
      · rename_i kvs lk q
        cases e
        cases rv with
        | ref hb =>
          obtain ⟨a', hb', x⟩ := S.at q
          rw [hb] at hb'; cases hb'
          cases lk with
          | false =>
            obtain ⟨ps, ha, kr⟩ := x
            exact ⟨_, o_len_dict trivial, _, ps, rfl, .inl ha, by rw [kr.length]; exact k _ _ _ .refl S (.int _)⟩
          | true =>
            obtain ⟨ps, o, ha, kr⟩ := x
            exact ⟨_, o_len_dict trivial, _, ps, rfl, .inr ⟨o, ha⟩, by rw [kr.length]; exact k _ _ _ .refl S (.int _)⟩
      · cases e
  · rename_i v h1 h2 _
    cases rs with
    | cons rv t' =>
      cases t'
      cases es : seqOf h v with
      | none => rw [es] at e; cases e
      | some ys => rw [es] at e; cases e; exact seqs _ _ ys rv es rfl rfl
  all_goals first | contradiction | cases e
theorem o_max (hK : X.K = L.K) (hc : X.calm = true) (new : Bool) : CallR X (.builtin "max") (rBf L .max new) := by
  refine pwC fun pins s σ H xs Q I q => ?_
  obtain ⟨β, h, args, z, S, rs, e, k⟩ := q
  unfold bfV at e
  split at e
  all_goals first | contradiction | skip
  · cases e
    cases rs with
    | cons r1 t1 =>
      cases t1 with
      | cons r2 t2 =>
        cases t2; cases r1; cases r2
        exact ⟨_, call_max2 hc, _, _, rfl, k _ _ _ .refl S (.int _)⟩
  · obtain ⟨m, em, rfl⟩ := Option.map_eq_some_iff.mp e
    obtain ⟨is, ei, em⟩ := Option.bind_eq_some_iff.mp em
    obtain ⟨m1, m2, m3⟩ := maxI_of em
    cases rs with
    | cons r1 t1 =>
      cases t1
      cases r1 with
      | lst ha hn rr =>
        refine ⟨_, cr_max hc, _, is, rfl, ?_, m1, fun m' h1 h2 => ?_⟩
        · rw [← ints_of ei rr]; exact SqL.of ha
        · have : m' = m := Int.le_antisymm (m3 _ h1) (h2 _ m2)
          subst this
          exact k _ _ _ .refl S (.int _)
theorem o_min (hK : X.K = L.K) (hc : X.calm = true) (new : Bool) : CallR X (.builtin "min") (rBf L .min new) := by
  refine pwC fun pins s σ H xs Q I q => ?_
  obtain ⟨β, h, args, z, S, rs, e, k⟩ := q
  unfold bfV at e
  split at e
  all_goals first | contradiction | skip
  · cases e
    cases rs with
    | cons r1 t1 =>
      cases t1 with
      | cons r2 t2 =>
        cases t2; cases r1; cases r2
        exact ⟨_, call_min2 hc, _, _, rfl, k _ _ _ .refl S (.int _)⟩
  · obtain ⟨m, em, rfl⟩ := Option.map_eq_some_iff.mp e
    obtain ⟨is, ei, em⟩ := Option.bind_eq_some_iff.mp em
    obtain ⟨m1, m2, m3⟩ := minI_of em
    cases rs with
    | cons r1 t1 =>
      cases t1
      cases r1 with
      | lst ha hn rr =>
        refine ⟨_, cr_min hc, _, is, rfl, ?_, m1, fun m' h1 h2 => ?_⟩
        · rw [← ints_of ei rr]; exact SqL.of ha
        · have : m' = m := Int.le_antisymm (h2 _ m2) (m3 _ h1)
          subst this
          exact k _ _ _ .refl S (.int _)
theorem o_sum (hc : X.calm = true) (new : Bool) : CallR X (.builtin "sum") (rBf L .sum new) := by
  refine pwC fun pins s σ H xs Q I q => ?_
  obtain ⟨β, h, args, z, S, rs, e, k⟩ := q
  unfold bfV at e
  split at e
  all_goals first | contradiction | skip
  · obtain ⟨is, ei, rfl⟩ := Option.map_eq_some_iff.mp e
    cases rs with
    | cons r1 t1 =>
      cases t1
      cases r1 with
      | lst ha hn rr =>
        refine ⟨_, cr_sum hc, _, is, rfl, ?_, k _ _ _ .refl S (.int _)⟩
        rw [← ints_of ei rr]; exact SqL.of ha
theorem o_all (hc : X.calm = true) (new : Bool) : CallR X (.builtin "all") (rBf L .all new) := by
  refine pwC fun pins s σ H xs Q I q => ?_
  obtain ⟨β, h, args, z, S, rs, e, k⟩ := q
  unfold bfV at e
  split at e
  all_goals first | contradiction | skip
  · obtain ⟨is, ei, rfl⟩ := Option.map_eq_some_iff.mp e
    cases rs with
    | cons r1 t1 =>
      cases t1
      cases r1 with
      | lst ha hn rr =>
        refine ⟨_, cr_all hc, _, is, rfl, ?_, k _ _ _ .refl S (.bl _)⟩
        rw [← bools_of ei rr]; exact SqL.of ha
theorem o_any (hc : X.calm = true) (new : Bool) : CallR X (.builtin "any") (rBf L .any new) := by
  refine pwC fun pins s σ H xs Q I q => ?_
  obtain ⟨β, h, args, z, S, rs, e, k⟩ := q
  unfold bfV at e
  split at e
  all_goals first | contradiction | skip
  · obtain ⟨is, ei, rfl⟩ := Option.map_eq_some_iff.mp e
    cases rs with
    | cons r1 t1 =>
      cases t1
      cases r1 with
      | lst ha hn rr =>
        refine ⟨_, cr_any hc, _, is, rfl, ?_, k _ _ _ .refl S (.bl _)⟩
        rw [← bools_of ei rr]; exact SqL.of ha
theorem o_int (new : Bool) : CallR X (.type "int") (rBf L .int new) := by
  refine pwC fun pins s σ H xs Q I q => ?_
  obtain ⟨β, h, args, z, S, rs, e, k⟩ := q
  unfold bfV at e
  split at e
  all_goals first | contradiction | skip
  · cases e
    cases rs with
    | cons r1 t1 => cases t1; cases r1; exact ⟨_, call_int1, .inl ⟨_, rfl, k _ _ _ .refl S (.int _)⟩⟩
  · cases e
    cases rs with
    | cons r1 t1 => cases t1; cases r1; exact ⟨_, call_int1, .inr ⟨_, rfl, k _ _ _ .refl S (.int _)⟩⟩
  · obtain ⟨⟨hd, hl⟩, rfl⟩ := ite_some e
    cases rs with
    | cons r1 t1 =>
      cases t1; cases r1
      simp only [allDig, Bool.and_eq_true, Bool.not_eq_true', List.isEmpty_eq_false_iff] at hd
      refine ⟨_, call_int_str, _, _, rfl, SX.int_S hd.2 hd.1 (by omega), ?_, k _ _ _ .refl S (.int _)⟩
      show List.length _ ≤ 640
      exact hl
theorem o_str (new : Bool) : CallR X (.type "str") (rBf L .str new) := by
  refine pwC fun pins s σ H xs Q I q => ?_
  obtain ⟨β, h, args, z, S, rs, e, k⟩ := q
  unfold bfV at e
  split at e
  all_goals first | contradiction | skip
  · obtain ⟨hl, rfl⟩ := ite_some e
    cases rs with
    | cons r1 t1 =>
      cases t1; cases r1
      refine ⟨_, call_str_int, _, rfl, hl, ?_⟩
      have ei := intText_eq
      show Q (V.str (Str.ofString (toString _))) H
      rw [ei]
      exact k _ _ _ .refl S (.str _)
  · cases e
    cases rs with
    | cons r1 t1 => cases t1; cases r1; exact ⟨_, SkE.call_str_str, _, rfl, k _ _ _ .refl S (.str _)⟩
theorem o_tuple (hK : X.K = L.K) (new : Bool) : CallR X (.type "tuple") (rBf L .tuple new) := by
  refine pwC fun pins s σ H xs Q I q => ?_
  obtain ⟨β, h, args, z, S, rs, e, k⟩ := q
  unfold bfV at e
  split at e
  all_goals first | contradiction | skip
  · cases e
    cases rs with
    | cons r1 t1 =>
      cases t1
      cases r1 with
      | tup ha rr => exact ⟨_, call_tuple_of, _, _, rfl, .inr ⟨hK ▸ ha, k _ _ _ .refl S (.tup ha rr)⟩⟩
  · rename_i v hv _
    obtain ⟨ys, es, rfl⟩ := Option.map_eq_some_iff.mp e
    cases rs with
    | cons r1 t1 =>
      cases t1
      obtain ⟨a, vs, rfl, rr, hs⟩ := seq_of S r1 es
      rcases hs with hs | hs
      · exact ⟨_, call_tuple_of, _, _, rfl, .inl ⟨hK ▸ hs, fin_tup S rr k⟩⟩
      · exact ⟨_, call_tuple_of, _, _, rfl, .inr ⟨hK ▸ hs, k _ _ _ .refl S (.tup hs rr)⟩⟩
theorem o_list (hK : X.K = L.K) (new : Bool) : CallR X (.type "list") (rBf L .list new) := by
  refine pwC fun pins s σ H xs Q I q => ?_
  obtain ⟨β, h, args, z, S, rs, e, k⟩ := q
  unfold bfV at e
  split at e
  all_goals first | contradiction | skip
  · obtain ⟨ys, es, rfl⟩ := Option.map_eq_some_iff.mp e
    cases rs with
    | cons r1 t1 =>
      cases t1
      obtain ⟨a, vs, rfl, rr, hs⟩ := seq_of S r1 es
      exact ⟨_, call_list_of, _, _, rfl, hK ▸ hs, Want.lst S rr k⟩
theorem o_bf (hK : X.K = L.K) (hc : X.calm = true) (new : Bool) (f : Bf) : CallR X (bfVal f) (rBf L f new) := by
  cases f with
  | len => exact o_len hK new
  | max => exact o_max hK hc new
  | min => exact o_min hK hc new
  | sum => exact o_sum hc new
  | all => exact o_all hc new
  | any => exact o_any hc new
  | int => exact o_int new
  | str => exact o_str new
  | list => exact o_list hK new
  | tuple => exact o_tuple hK new
  | sorted =>
    intro pins s σ H xs us Q I r q
    obtain ⟨β, h, args, z, S, rs, e, k⟩ := q
    unfold bfV at e
    split at e
    all_goals first | contradiction | cases e
variable {F : Fns} {W : WX} {lv : Nat}
theorem bf_boot (f : Bf) : bootBuiltins (bfNm f) = some (bfVal f) ∧ bfNm f ≠ "__name__" ∧ (bfNm f == ("__debug__" : PySem.Str)) = false := by
  cases f <;> exact ⟨by first | rfl | decide +kernel, by decide +kernel, by decide +kernel⟩
theorem s_bf {f : Bf} {e : Expr} {es : List Expr} {ms : List E} {p pos : Pos} (G : Gd X L W lv) (new : Bool) (hs : (e :: es).all notStar = true) (hg : Gl X (bfNm f)) (hm : X.mg (bfNm f) = none) (ha : PA X (e :: es) (tIs L F W ms)) : PE X (.Call (.Name (bfNm f) p) (e :: es) [] pos) (tI L F W (.bf f new ms)) := by
  obtain ⟨hv, hn, hdb⟩ := bf_boot f
  simp only [List.all_cons, Bool.and_eq_true] at hs
  have base : PE X (.Call (.Name (bfNm f) p) (e :: es) [] pos) (tCB (rBf L f new) (tIs L F W ms)) := by
    have c := o_bf (L := L) G.hK G.calm new f
    unfold bfVal at c hv
    split at c
    · rename_i ht
      rw [if_pos ht] at hv
      exact pe_callTy c hg hm hv ha hn hdb (starEach_of hs.1) (plain_args hs.2)
    · rename_i ht
      rw [if_neg ht] at hv
      exact pe_callB c hg hm hv ha hn hdb (starEach_of hs.1) (plain_args hs.2)
  refine pwE fun pins s σ H Q I q => ⟨_, base, ?_⟩
  obtain ⟨β, h, ρ, S, R, p0⟩ := q
  unfold evE at p0
  refine tIs_of S R (Pst.firsts p0 fun vs h1 us β1 H1 _ x1 S1 r1 p1 => ?_)
  split at p1
  · rename_i ys ez
    refine ⟨β1, h1, vs, _, S1, r1, ez, ?_⟩
    unfold newL at p1
    split at p1
    · cases new with
      | true => exact p1
      | false => exact p1
    · exact p1.elim
  · rename_i z nz ez
    refine ⟨β1, h1, vs, z, S1, r1, ez, ?_⟩
    cases z with
    | lst xs => exact absurd rfl (nz xs)
    | _ => exact p1
  · exact p1.elim

/-! ### isinstance -/
def tyNm : Ty → String
  | .int => "int" | .bool => "bool" | .str => "str" | .tuple => "tuple" | .cls _ => ""
theorem s_isi {e : Expr} {m : E} {t : Ty} {p p2 pos : Pos} (G : Gd X L W lv) (ht : match t with | .cls _ => False | _ => True) (hs : notStar e = true) (hg : Gl X "isinstance") (hm : X.mg "isinstance" = none) (hg2 : Gl X (Str.ofString (tyNm t))) (hm2 : X.mg (Str.ofString (tyNm t)) = none) (he : PE X e (tI L F W m)) :
    PE X (.Call (.Name "isinstance" p) [e, .Name (Str.ofString (tyNm t)) p2] [] pos) (tI L F W (.isi m t)) := by
  have hb : bootBuiltins (Str.ofString (tyNm t)) = some (.type (tyNm t)) ∧ Str.ofString (tyNm t) ≠ "__name__" ∧ (Str.ofString (tyNm t) == ("__debug__" : PySem.Str)) = false := by
    cases t with
    | cls c => exact ht.elim
    | _ => exact ⟨by first | rfl | decide +kernel, by decide +kernel, by decide +kernel⟩
  have h2 : PE X (.Name (Str.ofString (tyNm t)) p2) (tC (.ty (tyNm t))) := pe_bltn hg2 hm2 hb.1 rfl hb.2.1 hb.2.2
  have ha : PA X [e, .Name (Str.ofString (tyNm t)) p2] (tCons (tI L F W m) (tCons (tC (.ty (tyNm t))) tNil)) := pa_cons he (pa_cons h2 pa_nil) (starEach_of hs)
  refine pwE fun pins s σ H Q I q => ⟨_, pe_callB call_isi hg hm (by first | rfl | decide +kernel) ha (by decide +kernel) (by decide +kernel) (starEach_of hs) rfl, ?_⟩
  obtain ⟨β, h, ρ, S, R, p0⟩ := q
  unfold evE at p0
  refine tI_of S R (Pst.first p0 fun v h1 u β1 H1 _ x1 S1 r1 p1 => ?_)
  cases ez : isiV L.T h1 v t with
  | none => rw [ez] at p1; exact p1.elim
  | some b =>
    rw [ez] at p1
    have fin : ∀ a, TyX X.K H1 u (.type a) → kitB a (tyNm t) = some b → ∃ (x c : V) (t' u' : Value) (b' : Bool), [u, .ty (tyNm t)] = [x, c] ∧ ClsV c u' ∧ TyX X.K H1 x t' ∧ PySem.W.kitOne X.K t' u' = some b' ∧ Q (.bl b') H1 := fun a ty hk =>
      ⟨u, .ty (tyNm t), .type a, .type (tyNm t), b, rfl, .ty _, ty, kit_ty hk, p1 _ _ _ .refl S1 (.bl b)⟩
    show ∃ (x c : V) (t' u' : Value) (b' : Bool), [u, .ty (tyNm t)] = [x, c] ∧ ClsV c u' ∧ TyX X.K H1 x t' ∧ PySem.W.kitOne X.K t' u' = some b' ∧ Q (.bl b') H1
    have lists : ∀ {a : Addr} {vs : List V}, SqL L.K H1 a vs → TyX X.K H1 (.ref a) (.type "list") := fun {a vs} hs => by
      rcases hs with (hs | ⟨o, hs⟩) | ⟨o, its, n, h1, h2, _⟩
      · exact .base (.lst hs)
      · exact .base (.frz hs)
      · exact .kList (G.hK ▸ h1) h2
    have tups : ∀ {a : Addr} {vs : List V}, SqT L.K H1 a vs → TyX X.K H1 (.ref a) (.type "tuple") := fun {a vs} hs => by
      rcases hs with (hs | ⟨o, hs⟩) | hs
      · exact .base (.tup hs)
      · exact .fTuple hs
      · obtain ⟨o, its, n, h1, h2, _⟩ := hs
        exact .kTuple (G.hK ▸ h1) h2
    cases r1 with
    | non => exact fin _ (.base .non) (by cases t <;> first | exact ht.elim | (cases ez; decide +kernel))
    | bl y => exact fin _ (.base (.bl y)) (by cases t <;> first | exact ht.elim | (cases ez; decide +kernel))
    | int y => exact fin _ (.base (.int y)) (by cases t <;> first | exact ht.elim | (cases ez; decide +kernel))
    | str y => exact fin _ (.base (.str _)) (by cases t <;> first | exact ht.elim | (cases ez; decide +kernel))
    | tup hs rs => exact fin _ (tups hs) (by cases t <;> first | exact ht.elim | (cases ez; decide +kernel))
    | lst hs hn rs => exact fin _ (lists (SqL.of hs)) (by cases t <;> first | exact ht.elim | (cases ez; decide +kernel))
    | arr hs rs => exact fin _ (lists hs.sql) (by cases t <;> first | exact ht.elim | (cases ez; decide +kernel))
    | ref hb => cases t <;> cases ez
    | fn k => cases t <;> cases ez
end
end MP

/-! Mp1g: methods of lists and texts -/
namespace MP
open PySem PySem.Spec PyProof.Rows L2

def rBm (L : Lk) (m : Bm) : V → List V → Hp → VK → Prop := fun x vs H Q => ∃ (β : Bt) (h : Heap) (a : Val) (args : List Val), Sim L β H h ∧ VR L β H x a ∧ VRs L β H vs args ∧ Pst L β H (bmV h m a args) Q fun _ _ _ => False
section
variable {X : Cx} {L : Lk}
theorem lst_ch {β : Bt} {H : Hp} {h : Heap} (S : Sim L β H h) {r : Nat} {a : Addr} {xs : List Val} {vs : List V} {Q : VK} {z : Val} {v : V} (e : β r = some a) (rs : VRs L β H vs xs) (rv : VR L β H v z)
    (p : Pst L β H (.ok z (h.set r (.lst xs))) Q fun _ _ _ => False) : Q v (upd H a (.lst vs)) :=
  p _ _ _ (Ext.change e) (S.change (c := .lst xs) e ⟨vs, upd_same, rs.mono S (Ext.change e)⟩) (rv.mono S (Ext.change e))
theorem lst_at {β : Bt} {H : Hp} {h : Heap} (S : Sim L β H h) {r : Nat} {a : Addr} {xs : List Val} (e : β r = some a) (q : h.c r = some (.lst xs)) : ∃ vs, H a = some (.lst vs) ∧ VRs L β H vs xs := by
  obtain ⟨a', e', x⟩ := S.at q
  rw [e] at e'; cases e'
  exact x
theorem o_append : MtR X "list.append" (rBm L .append) := by
  refine pwM fun pins s σ H x vs Q I q => ?_
  obtain ⟨β, h, a, args, S, ra, rs, p⟩ := q
  unfold bmV at p
  split at p
  all_goals first | contradiction | exact p.elim | skip
  split at p
  · rename_i r _ xs y hc
    cases ra with
    | ref hb =>
      cases rs with
      | cons r1 t1 =>
        cases t1
        obtain ⟨us, ha, ru⟩ := lst_at S hb hc
        split at p
        · rename_i hl
          refine ⟨_, mt_append, _, us, _, rfl, rfl, ha, ?_, lst_ch S hb (ru.append (.cons r1 .nil)) .non p⟩
          rw [← sizeL, ru.length]; exact hl
        · exact p.elim
  · exact p.elim
theorem o_extend : MtR X "list.extend" (rBm L .extend) := by
  refine pwM fun pins s σ H x vs Q I q => ?_
  obtain ⟨β, h, a, args, S, ra, rs, p⟩ := q
  unfold bmV at p
  split at p
  all_goals first | contradiction | exact p.elim | skip
  split at p
  · rename_i r _ xs ys hc
    cases ra with
    | ref hb =>
      cases rs with
      | cons r1 t1 =>
        cases t1
        obtain ⟨us, ha, ru⟩ := lst_at S hb hc
        cases r1 with
        | lst hs hn rr =>
          split at p
          · rename_i hl
            refine ⟨_, mt_extend, _, _, us, _, rfl, rfl, ha, hs, ?_, lst_ch S hb (ru.append rr) .non p⟩
            rw [← sizeL, ru.length, rr.length]; exact hl
          · exact p.elim
  · rename_i r _ xs q hc
    cases ra with
    | ref hb =>
      cases rs with
      | cons r1 t1 =>
        cases t1
        obtain ⟨us, ha, ru⟩ := lst_at S hb hc
        cases r1 with
        | ref hb2 =>
          split at p
          · rename_i ys hq
            obtain ⟨ws, ha2, rw2⟩ := lst_at S hb2 hq
            split at p
            · rename_i hl
              refine ⟨_, mt_extend, _, _, us, _, rfl, rfl, ha, ha2, ?_, lst_ch S hb (ru.append rw2) .non p⟩
              rw [← sizeL, ru.length, rw2.length]; exact hl
            · exact p.elim
          · exact p.elim
  · exact p.elim
theorem VRs.getLast {β : Bt} {H : Hp} {vs : List V} {xs : List Val} {y : Val} (r : VRs L β H vs xs) (e : xs.getLast? = some y) : ∃ v, vs[vs.length - 1]? = some v ∧ VR L β H v y := by
  rw [List.getLast?_eq_getElem?] at e
  obtain ⟨v, a, b⟩ := r.get e
  exact ⟨v, by rw [r.length]; exact a, b⟩
/-- a list's pop -/
def rPopL (L : Lk) : V → List V → Hp → VK → Prop := fun x vs H Q => ∃ (β : Bt) (h : Heap) (a : Val) (args : List Val), bmK h .pop a = some 0 ∧ Sim L β H h ∧ VR L β H x a ∧ VRs L β H vs args ∧ Pst L β H (bmV h .pop a args) Q fun _ _ _ => False
theorem place_seq {n : Nat} {i : Int} {j : Nat} (hn : n ≤ sizeLine) (e : place n i = some j) : -(2 ^ 63) ≤ i ∧ i < 2 ^ 63 ∧ seqIndex? i n = some j := by
  have h := ixN_seq (show ixN n i = some j from e)
  obtain ⟨h1, h2, h3, h4⟩ := h
  have := line63
  exact ⟨by omega, by omega, h1⟩
theorem o_popL : MtR X "list.pop" (rPopL L) := by
  refine pwM fun pins s σ H x vs Q I q => ?_
  obtain ⟨β, h, a, args, hk, S, ra, rs, p⟩ := q
  unfold bmV at p
  split at p
  all_goals first | contradiction | exact p.elim | skip
  rename_i r _
  simp only [bmK, kindV] at hk
  split at p
  · rename_i xs hc
    cases ra with
    | ref hb =>
      obtain ⟨us, ha, ru⟩ := lst_at S hb hc
      cases rs
      split at p
      · rename_i y ey
        obtain ⟨v, ev, rv⟩ := ru.getLast ey
        exact ⟨_, mt_pop, _, us, v, rfl, rfl, ha, ev, lst_ch S hb ru.dropLast rv p⟩
      · exact p.elim
  · rename_i xs i hc
    cases ra with
    | ref hb =>
      obtain ⟨us, ha, ru⟩ := lst_at S hb hc
      cases rs with
      | cons r1 t1 =>
        cases t1; cases r1
        split at p
        · rename_i j ej
          split at p
          · rename_i y ey
            obtain ⟨v, ev, rv⟩ := ru.get ey
            obtain ⟨z, _⟩ := I.lstM ha
            obtain ⟨l1, l2, l3⟩ := place_seq (by rw [← ru.length]; exact z) ej
            refine ⟨_, mt_popAt, _, us, i, j, v, rfl, rfl, ha, l1, l2, by rw [ru.length]; exact l3, ev, lst_ch S hb (ru.erase j) rv p⟩
          · exact p.elim
        · exact p.elim
  · rename_i kvs k hc
    rw [hc] at hk
    cases hk
  · exact p.elim

/-! ### texts -/
theorem o_join (hK : X.K = L.K) : MtR X "str.join" (rBm L .join) := by
  refine pwM fun pins s σ H x vs Q I q => ?_
  obtain ⟨β, h, a, args, S, ra, rs, p⟩ := q
  unfold bmV at p
  split at p
  all_goals first | contradiction | exact p.elim | skip
  split at p
  · split at p
    · rename_i xs _ ts et
      split at p
      · rename_i hl
        cases ra
        cases rs with
        | cons r1 t1 =>
          cases t1
          cases r1 with
          | lst hs hn rr =>
            refine ⟨_, mt_join, _, _, ts.map tx, rfl, rfl, ?_, ?_, ?_⟩
            · rw [← texts_of et rr]; exact .inl (SqL.of hs)
            · rw [sumLen_eq, List.length_map]
              have : line = 16777216 := rfl
              show sumLen ts + ts.length * List.length _ ≤ 16777216
              rw [Nat.mul_comm]
              exact Nat.le_trans hl (by decide)
            · show Q (V.str (Txt.join (tx _) _)) H
              rw [show Txt.join (tx _) (ts.map tx) = _ from (StrLaws.glued_eq_join _ _).trans (join_eq _ ts)]
              exact p _ _ _ .refl S (.str _)
      · exact p.elim
    · exact p.elim
  · exact p.elim
theorem prefix_sub (s t : List Nat) : PySem.Builtin.Str.subAt (tx s) (tx t) 0 = t.isPrefixOf s := by
  rw [StrLaws.subAt_eq]
  show ((s.drop 0).take t.length == t) = _
  rw [List.drop_zero, Bool.eq_iff_iff, beq_iff_eq, List.isPrefixOf_iff_prefix]
  constructor
  · intro e; exact e ▸ List.take_prefix _ _
  · intro e; exact (List.prefix_iff_eq_take.mp e).symm
theorem o_removeprefix : MtR X "str.removeprefix" (rBm L .removeprefix) := by
  refine pwM fun pins s σ H x vs Q I q => ?_
  obtain ⟨β, h, a, args, S, ra, rs, p⟩ := q
  unfold bmV at p
  split at p
  all_goals first | contradiction | exact p.elim | skip
  rename_i u _
  split at p
  · rename_i t
    split at p
    · rename_i hl
      cases ra
      cases rs with
      | cons r1 t1 =>
        cases t1; cases r1
        refine ⟨_, mt_removeprefix, tx u, tx t, rfl, rfl, ?_, ?_⟩
        · rw [← sizeL]; exact hl
        · have e : Txt.removeprefix (tx u) (tx t) = tx (if t.isPrefixOf u then u.drop t.length else u) := by
            unfold Txt.removeprefix
            rw [prefix_sub]
            cases hp : t.isPrefixOf u with
            | true =>
              simp only [if_true, Txt.affix]
              have hle : t.length ≤ u.length := (List.isPrefixOf_iff_prefix.mp hp).length_le
              have hl2 : (tx t).length = t.length := rfl
              have hl3 : (tx u).length = u.length := rfl
              rw [hl2, hl3]
              by_cases hz : u.length - t.length = u.length
              · rw [if_pos (by simpa using hz)]
                have : t.length = 0 := by omega
                rw [this, List.drop_zero]
              · rw [if_neg (by simpa using hz)]
                unfold PySem.Builtin.Str.strSub tx
                simp
                exact List.take_of_length_le (by rw [List.length_drop]; exact Nat.le_refl _)
            | false => simp [Txt.affix]
          rw [e]
          exact p _ _ _ .refl S (.str _)
    · exact p.elim
  · exact p.elim
theorem o_startswith : MtR X "str.startswith" (rBm L .startswith) := by
  refine pwM fun pins s σ H x vs Q I q => ?_
  obtain ⟨β, h, a, args, S, ra, rs, p⟩ := q
  unfold bmV at p
  split at p
  all_goals first | contradiction | exact p.elim | skip
  rename_i u _
  split at p
  · rename_i t
    cases ra
    cases rs with
    | cons r1 t1 =>
      cases t1; cases r1
      refine ⟨_, mt_startswith, tx u, tx t, rfl, rfl, ?_⟩
      have e : Txt.startswith (tx u) (tx t) = t.isPrefixOf u := by
        unfold Txt.startswith
        rw [prefix_sub]
        cases hp : t.isPrefixOf u with
        | true =>
          have hle : t.length ≤ u.length := (List.isPrefixOf_iff_prefix.mp hp).length_le
          show (decide (0 + t.length ≤ u.length) && true) = true
          simp [hle]
        | false => simp
      rw [e]
      exact p _ _ _ .refl S (.bl _)
  · exact p.elim
/-- where a sign stands first -/
theorem occ_one (x : PySem.Str) (c : Nat) : ∀ (n k : Nat) (free : Nat), free ≤ k → k + n = x.length + 1 →
    (forIn (List.range' k n) ((#[] : Array Nat), free) (StrLaws.occBody x ⟨#[c]⟩ x.length 1)).run.fst.toList = match (x.cps.toList.drop k).findIdx? (· == c) with
      | some i => [k + i]
      | none => []
  | 0, k, free, _, e => by
    have : (x.cps.toList.drop k) = [] := List.drop_eq_nil_of_le (by show x.cps.toList.length ≤ k; rw [Array.length_toList]; have : x.length = x.cps.size := rfl; omega)
    rw [this]; rfl
  | n + 1, k, free, hf, e => by
    rw [List.range'_succ, List.forIn_cons]
    have hlen : x.cps.toList.length = x.length := by rw [Array.length_toList]; rfl
    unfold StrLaws.occBody
    by_cases hc : x.cps.toList[k]? = some c
    · obtain ⟨q1, q2⟩ := (StrLaws.subAt_one x c k).mpr hc
      rw [if_pos ⟨⟨⟨by simp, hf⟩, q1⟩, q2⟩]
      have hk : k < x.cps.toList.length := (List.getElem?_eq_some_iff.mp hc).1
      have hd : x.cps.toList.drop k = c :: x.cps.toList.drop (k + 1) := by
        rw [List.drop_eq_getElem_cons hk]
        rw [(List.getElem?_eq_some_iff.mp hc).2]
      rw [hd, List.findIdx?_cons]
      simp only [beq_self_eq_true, if_true]
      have stay : ∀ (l : List Nat) (st : Array Nat × Nat), st.fst.size = 1 → (forIn l st (StrLaws.occBody x ⟨#[c]⟩ x.length 1)).run.fst = st.fst := by
        intro l
        induction l with
        | nil => intro st _; rfl
        | cons a l ih =>
          intro st hs
          rw [List.forIn_cons]
          have e0 : StrLaws.occBody x ⟨#[c]⟩ x.length 1 a st = pure (ForInStep.yield (st.fst, st.snd)) := by
            unfold StrLaws.occBody
            exact if_neg (fun q => by have := q.1.1.1; omega)
          rw [e0]
          exact ih _ hs
      have := stay (List.range' (k + 1) n) ((#[] : Array Nat).push k, k + (⟨#[c]⟩ : PySem.Str).length) rfl
      exact (congrArg Array.toList this).trans rfl
    · have nc : ¬ ((((#[] : Array Nat), free).fst.size < 1 ∧ ((#[] : Array Nat), free).snd ≤ k) ∧ k + (⟨#[c]⟩ : PySem.Str).length ≤ x.length) ∨ ¬ (PySem.Builtin.Str.subAt x ⟨#[c]⟩ k = true) := by
        by_cases q1 : k + (⟨#[c]⟩ : PySem.Str).length ≤ x.length
        · exact .inr fun q2 => hc ((StrLaws.subAt_one x c k).mp ⟨q1, q2⟩)
        · exact .inl fun q => q1 q.2
      rw [if_neg (fun q => nc.elim (fun z => z q.1) fun z => z q.2)]
      have ih := occ_one x c n (k + 1) free (by omega) (by omega)
      show (forIn (List.range' (k + 1) n) ((#[] : Array Nat), free) (StrLaws.occBody x ⟨#[c]⟩ x.length 1)).run.fst.toList = _
      rw [ih]
      by_cases hk : k < x.cps.toList.length
      · rw [List.drop_eq_getElem_cons hk, List.findIdx?_cons]
        have hne : (x.cps.toList[k] == c) = false := by
          rw [beq_eq_false_iff_ne]
          intro q
          exact hc (by rw [List.getElem?_eq_getElem hk, q])
        rw [hne]
        simp only [Bool.false_eq_true, if_false]
        cases (x.cps.toList.drop (k + 1)).findIdx? (· == c) with
        | none => rfl
        | some i => simp only [Option.map_some]; congr 1; omega
      · have d1 : x.cps.toList.drop k = [] := List.drop_eq_nil_of_le (by omega)
        have d2 : x.cps.toList.drop (k + 1) = [] := List.drop_eq_nil_of_le (by omega)
        rw [d1, d2]
        rfl
theorem find_eq (s : List Nat) (c : Nat) : Txt.find (tx s) (tx [c]) = match s.findIdx? (· == c) with
    | some i => (i : Int)
    | none => -1 := by
  unfold Txt.find
  rw [StrLaws.occ_eq]
  have := occ_one (tx s) c ((tx s).length + 1 - 0) 0 0 (Nat.le_refl _) (by omega)
  rw [show (tx [c]) = (⟨#[c]⟩ : PySem.Str) from rfl, this]
  rw [List.drop_zero]
  show (match (match s.findIdx? (· == c) with | some i => [0 + i] | none => []) with | i :: _ => (i : Int) | [] => -1) = _
  cases s.findIdx? (· == c) with
  | none => rfl
  | some i => simp
theorem o_find : MtR X "str.find" (rBm L .find) := by
  refine pwM fun pins s σ H x vs Q I q => ?_
  obtain ⟨β, h, a, args, S, ra, rs, p⟩ := q
  unfold bmV at p
  split at p
  all_goals first | contradiction | exact p.elim | skip
  rename_i u _
  split at p
  · rename_i c
    cases ra
    cases rs with
    | cons r1 t1 =>
      cases t1; cases r1
      refine ⟨_, mt_find, tx u, tx [c], rfl, rfl, ?_⟩
      rw [find_eq]
      exact p _ _ _ .refl S (.int _)
  · exact p.elim

/-! ### the rule -/
def bmNm : Bm → PySem.Str
  | .append => "append" | .extend => "extend" | .pop => "pop" | .get => "get" | .join => "join" | .removeprefix => "removeprefix" | .startswith => "startswith" | .find => "find"
variable {F : Fns} {W : WX} {lv : Nat}
/-- a method that this type has: what the rule needs -/
theorem s_bm_of {T id : String} {r : V → List V → Hp → VK → Prop} {m : Bm} {tk : Nat} {o : Expr} {mo : E} {es : List Expr} {ms : List E} {apos pos : Pos} (pa : PlainAttrs T) (slot : Slot T (bmNm m) id) (hty : typeOf (.builtin id) = pure (.type "method_descriptor")) (hm : MtR X id r)
    (hn : notSuper o = true) (hl : (apos.endLine == pos.line) = true) (hs : es.all notStar = true) (hc : es.length < 30) (hz : es = [] → ms = []) (ho : PE X o (tI L F W mo)) (ha : PA X es (tIs L F W ms))
    (hT : ∀ β H h x a, Sim L β H h → VR L β H x a → bmK h m a = some tk → tyV X.K T x H)
    (hr : ∀ β H h x a vs args Q, bmK h m a = some tk → Sim L β H h → VR L β H x a → VRs L β H vs args → Pst L β H (bmV h m a args) Q (fun _ _ _ => False) → r x vs H Q)
    (pins : List (Addr × Obj)) (s : Shared) (σ : L2.St) (H : Hp) (Q : VK) (I : L2.Inv X pins σ H s) (β : Bt) (h : Heap) (ρ : Env) (S : Sim L β H h) (R : ER L β H σ ρ)
    (hk : ∀ v h1, evE L.T F mo ρ h = .ok v h1 → bmK h1 m v = some tk ∨ bmK h1 m v = none) (p0 : Pst L β H (evE L.T F (.bm mo m ms) ρ h) Q fun c d H' => W c d σ H') :
    wpAny (model X.prog X.w) X.A (eval (.Call (.Attribute o (bmNm m) apos) es [] pos) X.env) (EP X pins σ Q) X.xe s := by
  unfold evE at p0
  have noexc : ∀ (h : Heap) (a : Val) (args : List Val) (x : Exc) (h' : Heap), bmV h m a args ≠ .exc x h' := by
    intro h a args x h' e
    unfold bmV at e
    repeat' split at e
    all_goals first | cases e | skip
  have fin : ∀ {β1 : Bt} {h1 : Heap} {u : V} {v : Val} {H1 : Hp}, bmK h1 m v = some tk → Sim L β1 H1 h1 → VR L β1 H1 u v → ∀ {vs args} , VRs L β1 H1 vs args → Pst L β1 H1 (if bmK h1 m v = some tk then bmV h1 m v args else .bad) Q (fun c d H' => W c d σ H') → r u vs H1 Q := fun {β1 h1 u v H1} ek S1 r1 {vs args} rs p1 => by
    rw [if_pos ek] at p1
    refine hr _ _ _ _ _ _ _ _ ek S1 r1 rs ?_
    cases eb : bmV h1 m v args with
    | ok z h2 => rw [eb] at p1; exact p1
    | exc x h2 => exact absurd eb (noexc _ _ _ _ _)
    | bad => rw [eb] at p1; exact p1.elim
  cases es with
  | nil =>
    rw [hz rfl] at p0
    refine (pe_bm0 pa slot hty hm ho (base_of hn) hl).run pins s σ H Q I (tI_of S R (Pst.first p0 fun v h1 u β1 H1 e1 x1 S1 r1 p1 => ?_))
    rcases hk v h1 e1 with ek | ek
    · rw [ek] at p1
      rw [evEs_nil] at p1
      exact ⟨hT _ _ _ _ _ S1 r1 ek, fin ek S1 r1 .nil p1⟩
    · rw [ek] at p1; exact p1.elim
  | cons e es =>
    simp only [List.all_cons, Bool.and_eq_true] at hs
    refine (pe_bm pa slot hty hm ho ha (base_of hn) ?_ hl (starEach_of hs.1) (plain_args hs.2)).run pins s σ H Q I (tI_of S R (Pst.first p0 fun v h1 u β1 H1 e1 x1 S1 r1 p1 => ?_))
    · rw [plain_few (by simp only [List.all_cons, Bool.and_eq_true]; exact hs)]
      show (true && true && decide ((e :: es).length + 0 + 0 < 30)) = true
      rw [Bool.true_and, Bool.true_and]
      exact decide_eq_true (by omega)
    · rcases hk v h1 e1 with ek | ek
      · rw [ek] at p1
        refine ⟨hT _ _ _ _ _ S1 r1 ek, tIs_of S1 (R.mono S x1) (Pst.firsts p1 fun vs h2 us β2 H2 _ x2 S2 r2 p2 => ?_)⟩
        by_cases ek2 : bmK h2 m v = some tk
        · exact fin ek2 S2 (r1.mono S1 x2) r2 p2
        · rw [if_neg ek2] at p2; exact p2.elim
      · rw [ek] at p1; exact p1.elim
/-- s.m(..) of the methods without dicts -/
theorem s_bm {m : Bm} {o : Expr} {mo : E} {es : List Expr} {ms : List E} {apos pos : Pos} (hK : X.K = L.K) (hg : m ≠ .get) (hn : notSuper o = true) (hl : (apos.endLine == pos.line) = true) (hs : es.all notStar = true) (hc : es.length < 30) (hz : es = [] → ms = []) (ho : PE X o (tI L F W mo)) (ha : PA X es (tIs L F W ms))
    (hd : m = .pop → es = []) :
    PE X (.Call (.Attribute o (bmNm m) apos) es [] pos) (tI L F W (.bm mo m ms)) := by
  refine ⟨fun pins s σ H Q I ⟨β, h, ρ, S, R, p0⟩ => ?_⟩
  have tyL : ∀ m, bmHas m 0 = true → bmHas m 2 = false → ∀ β H h x a, Sim L β H h → VR L β H x a → bmK h m a = some 0 → tyV X.K "list" x H := fun m _ _ β H h x a S r e => by
    unfold bmK kindV at e
    cases r with
    | ref hb =>
      simp only at e
      split at e
      · rename_i t et
        split at et
        · rename_i xs q
          obtain ⟨vs, ha, _⟩ := lst_at S hb q
          exact .inl ⟨rfl, vs, SqL.of ha⟩
        · cases et; split at e <;> cases e
        · cases et
      · cases e
    | str s => simp only at e; split at e <;> cases e
    | _ => cases e
  have tyS : ∀ m β H h x a, Sim L β H h → VR L β H x a → bmK h m a = some 2 → tyV X.K "str" x H := fun m β H h x a S r e => by
    unfold bmK kindV at e
    cases r with
    | ref hb =>
      simp only at e
      split at e
      · rename_i t et
        split at et
        · cases et; split at e <;> cases e
        · cases et; split at e <;> cases e
        · cases et
      · cases e
    | str s => rfl
    | _ => cases e
  have kd : ∀ (h : Heap) (v : Val), bmK h m v = none ∨ ∃ t, bmK h m v = some t ∧ bmHas m t = true := fun h v => by
    unfold bmK
    split
    · split
      · exact .inr ⟨_, rfl, by assumption⟩
      · exact .inl rfl
    · exact .inl rfl
  have one : ∀ tk, (∀ t, bmHas m t = true → t = tk) → ∀ v h1, evE L.T F mo ρ h = .ok v h1 → bmK h1 m v = some tk ∨ bmK h1 m v = none := fun tk u v h1 _ => by
    rcases kd h1 v with q | ⟨t, q, b⟩
    · exact .inr q
    · exact .inl (by rw [q, u t b])
  cases m with
  | get => exact absurd rfl hg
  | append => exact s_bm_of (m := .append) (tk := 0) PySem.F.plainAttrs_list PySem.F.slot_list_append PySem.F.type_list_append (o_append (L := L)) hn hl hs hc hz ho ha (tyL .append rfl rfl) (fun β H h x a vs args Q _ S r rs p => ⟨β, h, a, args, S, r, rs, p⟩) pins s σ H Q I β h ρ S R (one 0 fun t b => by simpa [bmHas] using b) p0
  | extend => exact s_bm_of (m := .extend) (tk := 0) PySem.F.plainAttrs_list PySem.F.slot_list_extend PySem.F.type_list_extend (o_extend (L := L)) hn hl hs hc hz ho ha (tyL .extend rfl rfl) (fun β H h x a vs args Q _ S r rs p => ⟨β, h, a, args, S, r, rs, p⟩) pins s σ H Q I β h ρ S R (one 0 fun t b => by simpa [bmHas] using b) p0
  | pop =>
    by_cases q : ∃ v h1, evE L.T F mo ρ h = .ok v h1 ∧ bmK h1 .pop v = some 1
    · exfalso
      obtain ⟨v, h1, e, ek⟩ := q
      rw [hz (hd rfl)] at p0
      unfold evE at p0
      rw [e] at p0
      dsimp only [Out.bind] at p0
      rw [ek, evEs_nil] at p0
      dsimp only at p0
      rw [if_pos ek] at p0
      have : bmV h1 .pop v [] = .bad := by
        cases v with
        | ref r =>
          unfold bmK kindV at ek
          simp only at ek
          split at ek
          · rename_i t et
            split at et
            · cases et; split at ek <;> cases ek
            · rename_i hc
              unfold bmV
              simp only [hc]
            · cases et
          · cases ek
        | _ => unfold bmV; rfl
      rw [this] at p0
      exact p0
    · refine s_bm_of (m := .pop) (tk := 0) PySem.F.plainAttrs_list PySem.F.slot_list_pop PySem.F.type_list_pop (o_popL (L := L)) hn hl hs hc hz ho ha (tyL .pop rfl rfl) (fun β H h x a vs args Q e S r rs p => ⟨β, h, a, args, e, S, r, rs, p⟩) pins s σ H Q I β h ρ S R (fun v h1 e => ?_) p0
      rcases kd h1 v with z | ⟨t, z, b⟩
      · exact .inr z
      · simp only [bmHas, Bool.or_eq_true, beq_iff_eq] at b
        rcases b with rfl | rfl
        · exact .inl z
        · exact absurd ⟨v, h1, e, z⟩ q
  | join => exact s_bm_of (m := .join) (tk := 2) PySem.F.plainAttrs_str PySem.F.slot_str_join PySem.F.type_str_join (o_join (L := L) hK) hn hl hs hc hz ho ha (tyS .join) (fun β H h x a vs args Q _ S r rs p => ⟨β, h, a, args, S, r, rs, p⟩) pins s σ H Q I β h ρ S R (one 2 fun t b => by simpa [bmHas] using b) p0
  | removeprefix => exact s_bm_of (m := .removeprefix) (tk := 2) PySem.F.plainAttrs_str PySem.F.slot_str_removeprefix PySem.F.type_str_removeprefix (o_removeprefix (L := L)) hn hl hs hc hz ho ha (tyS .removeprefix) (fun β H h x a vs args Q _ S r rs p => ⟨β, h, a, args, S, r, rs, p⟩) pins s σ H Q I β h ρ S R (one 2 fun t b => by simpa [bmHas] using b) p0
  | startswith => exact s_bm_of (m := .startswith) (tk := 2) PySem.F.plainAttrs_str PySem.F.slot_str_startswith PySem.F.type_str_startswith (o_startswith (L := L)) hn hl hs hc hz ho ha (tyS .startswith) (fun β H h x a vs args Q _ S r rs p => ⟨β, h, a, args, S, r, rs, p⟩) pins s σ H Q I β h ρ S R (one 2 fun t b => by simpa [bmHas] using b) p0
  | find => exact s_bm_of (m := .find) (tk := 2) PySem.F.plainAttrs_str PySem.F.slot_str_find PySem.F.type_str_find (o_find (L := L)) hn hl hs hc hz ho ha (tyS .find) (fun β H h x a vs args Q _ S r rs p => ⟨β, h, a, args, S, r, rs, p⟩) pins s σ H Q I β h ρ S R (one 2 fun t b => by simpa [bmHas] using b) p0
end
end MP

/-! Mp1h: statements -/
namespace MP
open PySem PySem.Spec PyProof.Rows L2

def Sst (L : Lk) (β : Bt) (H : Hp) (o : SO) (D : Ends) (W : WX) : Prop := match o with
  | .nx ρ h' => ∀ σ' β' H', Ext β H β' H' → Sim L β' H' h' → ER L β' H' σ' ρ → D.nx σ' H'
  | .rt v h' => ∀ u β' H', Ext β H β' H' → Sim L β' H' h' → VR L β' H' u v → D.rt u H'
  | .bk ρ h' => ∀ σ' β' H', Ext β H β' H' → Sim L β' H' h' → ER L β' H' σ' ρ → D.bk σ' H'
  | .ct ρ h' => ∀ σ' β' H', Ext β H β' H' → Sim L β' H' h' → ER L β' H' σ' ρ → D.ct σ' H'
  | .exc x ρ h' => ∀ cls d σ' β' H', Ext β H β' H' → Sim L β' H' h' → ER L β' H' σ' ρ → ExR L H' cls d x → W cls d σ' H'
  | .bad => False
def tS (L : Lk) (F : Fns) (W : WX) (s : S) : TS := fun D σ H => ∃ (β : Bt) (h : Heap) (ρ : Env), Sim L β H h ∧ ER L β H σ ρ ∧ Sst L β H (exS L.T F s ρ h) D W
def tSs (L : Lk) (F : Fns) (W : WX) (s : List S) : TS := fun D σ H => ∃ (β : Bt) (h : Heap) (ρ : Env), Sim L β H h ∧ ER L β H σ ρ ∧ Sst L β H (exB L.T F s ρ h) D W
section
variable {L : Lk} {F : Fns} {W : WX} {β β' β2 : Bt} {H H' H2 : Hp} {h : Heap} {σ : L2.St} {ρ : Env} {D : Ends}
theorem Sst.mono {o : SO} (x : Ext β H β' H') (p : Sst L β H o D W) : Sst L β' H' o D W := by
  cases o with
  | nx ρ h' => exact fun σ' β2 H2 y s r => p σ' β2 H2 (x.trans y) s r
  | rt v h' => exact fun u β2 H2 y s r => p u β2 H2 (x.trans y) s r
  | bk ρ h' => exact fun σ' β2 H2 y s r => p σ' β2 H2 (x.trans y) s r
  | ct ρ h' => exact fun σ' β2 H2 y s r => p σ' β2 H2 (x.trans y) s r
  | exc x' ρ h' => exact fun c d σ' β2 H2 y s r => p c d σ' β2 H2 (x.trans y) s r
  | bad => exact p
/-- from a statement to its first expression -/
theorem Sst.first {o : Out Val} {f : Val → Heap → SO} {Q' : VK} (S : Sim L β H h) (R : ER L β H σ ρ) (p : Sst L β H (o.stm ρ f) D W)
    (k : ∀ v h1 u β1 H1, o = .ok v h1 → Ext β H β1 H1 → Sim L β1 H1 h1 → VR L β1 H1 u v → Sst L β1 H1 (f v h1) D W → Q' u H1) : Pst L β H o Q' fun c d H' => W c d σ H' := by
  cases o with
  | ok v h' => exact fun u β1 H1 x s r => k v h' u β1 H1 rfl x s r (Sst.mono x p)
  | exc x h' => exact fun c d β1 H1 y s r => p c d σ β1 H1 y s (R.mono S y) r
  | bad => exact p
theorem Sst.firsts {o : Out (List Val)} {f : List Val → Heap → SO} {Q' : List V → Hp → Prop} (S : Sim L β H h) (R : ER L β H σ ρ) (p : Sst L β H (o.stm ρ f) D W)
    (k : ∀ v h1 u β1 H1, o = .ok v h1 → Ext β H β1 H1 → Sim L β1 H1 h1 → VRs L β1 H1 u v → Sst L β1 H1 (f v h1) D W → Q' u H1) : Psts L β H o Q' fun c d H' => W c d σ H' := by
  cases o with
  | ok v h' => exact fun u β1 H1 x s r => k v h' u β1 H1 rfl x s r (Sst.mono x p)
  | exc x h' => exact fun c d β1 H1 y s r => p c d σ β1 H1 y s (R.mono S y) r
  | bad => exact p
theorem exB_nil (T : Tb) : exB T F [] ρ h = .nx ρ h := by unfold exB; rfl
theorem exB_cons (T : Tb) (s : S) (r : List S) : exB T F (s :: r) ρ h = (exS T F s ρ h).next fun ρ h => exB T F r ρ h := by conv => lhs; unfold exB
end

section
variable {X : Cx} {L : Lk} {F : Fns} {W : WX} {lv : Nat}
theorem s_stop {st : Stmt} : PS X st (tS L F W .stop) := ⟨fun pins s σ H D I ⟨β, h, ρ, S, R, p⟩ => by unfold exS at p; exact p.elim⟩
theorem s_stopE {e : Expr} : PE X e (tI L F W .stop) := ⟨fun pins s σ H Q I ⟨β, h, ρ, S, R, p⟩ => by unfold evE at p; exact p.elim⟩
theorem s_snil : PSs X [] (tSs L F W []) := pwSs fun pins s σ H D I ⟨β, h, ρ, S, R, p⟩ => ⟨_, pss_nil, by rw [exB_nil] at p; exact p _ _ _ .refl S R⟩
theorem s_scons {st : Stmt} {rest : List Stmt} {m : S} {ms : List S} (h1 : PS X st (tS L F W m)) (h2 : PSs X rest (tSs L F W ms)) : PSs X (st :: rest) (tSs L F W (m :: ms)) := by
  refine pwSs fun pins s σ H D I ⟨β, h, ρ, S, R, p⟩ => ⟨_, pss_cons h1 h2, ?_⟩
  rw [exB_cons] at p
  refine ⟨β, h, ρ, S, R, ?_⟩
  cases e : exS L.T F m ρ h with
  | nx ρ' h' => rw [e] at p; exact fun σ' β' H' x s r => ⟨β', h', ρ', s, r, Sst.mono x p⟩
  | rt v h' => rw [e] at p; exact p
  | bk ρ' h' => rw [e] at p; exact p
  | ct ρ' h' => rw [e] at p; exact p
  | exc x ρ' h' => rw [e] at p; exact p
  | bad => rw [e] at p; exact p
theorem s_pass {pos : Pos} : PS X (.Pass pos) (tS L F W .pass) := pwS fun pins s σ H D I ⟨β, h, ρ, S, R, p⟩ => ⟨_, ps_pass, by unfold exS at p; exact p _ _ _ .refl S R⟩
theorem s_doc {x : PySem.Str} {j : Nat} {pos pos' : Pos} : PS X (.Expr (.Constant (.str x) j pos) pos') (tS L F W .pass) := pwS fun pins s σ H D I ⟨β, h, ρ, S, R, p⟩ => ⟨_, ps_doc, by unfold exS at p; exact p _ _ _ .refl S R⟩
theorem s_brk {pos : Pos} : PS X (.Break pos) (tS L F W .brk) := pwS fun pins s σ H D I ⟨β, h, ρ, S, R, p⟩ => ⟨_, ps_break, by unfold exS at p; exact p _ _ _ .refl S R⟩
theorem s_cont {pos : Pos} : PS X (.Continue pos) (tS L F W .cont) := pwS fun pins s σ H D I ⟨β, h, ρ, S, R, p⟩ => ⟨_, ps_continue, by unfold exS at p; exact p _ _ _ .refl S R⟩
def notComp : Expr → Bool
  | .ListComp .. => false
  | .SetComp .. => false
  | .DictComp .. => false
  | _ => true
theorem sw_no {e : Expr} {t : Option Expr} {l : Nat} {env : PySem.Env} (h : notComp e = true) : swapsWith e t l env = pure false := by
  cases e <;> first | rfl | (simp [notComp] at h)
theorem s_expr {e : Expr} {m : E} {pos : Pos} (hn : notComp e = true) (he : PE X e (tI L F W m)) : PS X (.Expr e pos) (tS L F W (.expr m)) := by
  refine pwS fun pins s σ H D I ⟨β, h, ρ, S, R, p⟩ => ⟨_, ps_expr he (sw_no hn), ?_⟩
  unfold exS at p
  exact tI_of S R (Sst.first S R p fun v h1 u β1 H1 _ x1 S1 r1 p1 => p1 _ _ _ .refl S1 (R.mono S x1))
theorem s_ret {e : Expr} {m : E} {pos : Pos} (he : PE X e (tI L F W m)) : PS X (.Return (some e) pos) (tS L F W (.ret m)) := by
  refine pwS fun pins s σ H D I ⟨β, h, ρ, S, R, p⟩ => ⟨_, ps_ret he, ?_⟩
  unfold exS at p
  exact tI_of S R (Sst.first S R p fun v h1 u β1 H1 _ x1 S1 r1 p1 => p1 _ _ _ .refl S1 r1)
theorem s_retN {pos : Pos} : PS X (.Return none pos) (tS L F W .retN) := pwS fun pins s σ H D I ⟨β, h, ρ, S, R, p⟩ => ⟨_, ps_retN, by unfold exS at p; exact p _ _ _ .refl S .non⟩
theorem s_if {c : Expr} {a b : List Stmt} {mc : E} {ma mb : List S} {pos : Pos} (hc : PT X c (tT L F W mc)) (ha : PSs X a (tSs L F W ma)) (hb : PSs X b (tSs L F W mb)) : PS X (.If c a b pos) (tS L F W (.ife mc ma mb)) := by
  refine pwS fun pins s σ H D I ⟨β, h, ρ, S, R, p⟩ => ⟨_, ps_if hc ha hb, ?_⟩
  unfold exS at p
  refine ⟨β, h, ρ, S, R, ?_⟩
  cases ee : evE L.T F mc ρ h with
  | ok v h' =>
    rw [ee] at p
    dsimp only [Out.stm] at p
    cases et : MP.truthy h' v with
    | none => rw [et] at p; exact p.elim
    | some b =>
      rw [et] at p
      refine ⟨b, et, fun β' H' x S' => ?_⟩
      cases b with
      | true => exact iteT ⟨β', h', ρ, S', R.mono S x, Sst.mono x p⟩
      | false => exact iteF ⟨β', h', ρ, S', R.mono S x, Sst.mono x p⟩
  | exc x h' => rw [ee] at p; exact fun c d β1 H1 y s r => p c d σ β1 H1 y s (R.mono S y) r
  | bad => rw [ee] at p; exact p

/-! ### targets -/
/-- a store: the slots as told, the own names of a block apart -/
def tG (L : Lk) (tg : Tg) : TG := fun v σ H Q => ∃ (β : Bt) (h : Heap) (ρ ρ' : Env) (a : Val), Sim L β H h ∧ ER L β H σ ρ ∧ VR L β H v a ∧ bindTg ρ tg a = some ρ' ∧
  ∀ σ', ER L β H σ' ρ' → (∀ vs : List Nat, (∀ i ∈ (match tg with | .name i => [i] | .tup is => is), i ∈ vs) → L2.wipe σ' vs = L2.wipe σ vs) → Q σ' H
def tGs (L : Lk) (is : List Nat) : TGs := fun us σ H Q => ∃ (β : Bt) (h : Heap) (ρ ρ' : Env) (as : List Val), Sim L β H h ∧ ER L β H σ ρ ∧ VRs L β H us as ∧ setSlots ρ is as = some ρ' ∧
  ∀ σ', ER L β H σ' ρ' → (∀ vs : List Nat, (∀ i ∈ is, i ∈ vs) → L2.wipe σ' vs = L2.wipe σ vs) → Q σ' H
theorem wipe_set {σ : L2.St} {i : Nat} {v : Option V} : ∀ {vs : List Nat}, i ∈ vs → L2.wipe (σ.set i v) vs = L2.wipe σ vs
  | j :: vs, h => by
    unfold L2.wipe
    by_cases e : i = j
    · subst e
      by_cases hm : i ∈ vs
      · rw [wipe_set hm]
      · have out : ∀ {vs : List Nat}, i ∉ vs → L2.wipe (σ.set i v) vs = (L2.wipe σ vs).set i v := by
          intro vs
          induction vs with
          | nil => intro _; rfl
          | cons k vs ih =>
            intro hk
            simp only [List.mem_cons, not_or] at hk
            unfold L2.wipe
            rw [ih hk.2, List.set_comm _ _ hk.1]
        rw [out hm, List.set_set]
    · have hm : i ∈ vs := by
        rcases List.mem_cons.mp h with z | z
        · exact absurd z e
        · exact z
      rw [wipe_set hm]
/-- names that may be stored -/
structure Sto (X : Cx) (i : Nat) (x : PySem.Str) : Prop where
  at_ : X.N[i]? = some x
  loc : Loc X.env.scope x
  fn : X.fn x = true ∨ X.env.scope.names.lookup x = some .local
theorem s_gname {i : Nat} {x : PySem.Str} {pos : Pos} (nd : X.N.Nodup) (h : Sto X i x) : PG X (.Name x pos) (tG L (.name i)) := by
  refine ⟨fun pins s σ H v u Q I r ⟨β, h', ρ, ρ', a, S, R, rv, e, k⟩ => (pg_name nd h.at_ h.loc h.fn).run pins s σ H v u Q I r ?_⟩
  simp only [bindTg, setSlots] at e
  split at e
  · cases e
    exact k _ (R.set rv i) fun vs hv => wipe_set (hv i (by simp))
  · cases e
inductive TgOk (X : Cx) : List Expr → List Nat → Prop where
  | nil : TgOk X [] []
  | cons {i : Nat} {x : PySem.Str} {p : Pos} {es : List Expr} {is : List Nat} : Sto X i x → TgOk X es is → TgOk X (.Name x p :: es) (i :: is)
theorem TgOk.length {py : List Expr} {is : List Nat} (h : TgOk X py is) : py.length = is.length := by
  induction h with
  | nil => rfl
  | cons _ _ ih => exact congrArg Nat.succ ih
theorem s_gs {py : List Expr} {is : List Nat} (nd : X.N.Nodup) (h : TgOk X py is) : PGs X py (tGs L is) := by
  induction h with
  | nil =>
    refine ⟨fun pins s σ H vs us Q I r ⟨β, h', ρ, ρ', as, S, R, rv, e, k⟩ => pgs_nil.run pins s σ H vs us Q I r ?_⟩
    cases as with
    | nil =>
      cases rv
      cases e
      exact ⟨rfl, k σ R fun _ _ => rfl⟩
    | cons a as => cases e
  | @cons i x p es is sx _ ih =>
    refine ⟨fun pins s σ H vs us Q I r ⟨β, h', ρ, ρ', as, S, R, rv, e, k⟩ => (pgs_cons (s_gname (L := L) nd sx) ih).run pins s σ H vs us Q I r ?_⟩
    cases as with
    | nil => cases e
    | cons a as =>
      cases rv with
      | cons ra rs =>
        simp only [setSlots] at e
        split at e
        · rename_i hl
          refine ⟨_, _, rfl, β, h', ρ, ρ.set i (some a), a, S, R, ra, by simp only [bindTg, setSlots]; rw [if_pos hl], fun σ1 R1 w1 => ?_⟩
          exact ⟨β, h', ρ.set i (some a), ρ', as, S, R1, rs, e, fun σ2 R2 w2 => k σ2 R2 fun vs hv => (w2 vs fun j hj => hv j (List.mem_cons_of_mem _ hj)).trans (w1 vs fun j hj => by
            cases List.mem_singleton.mp hj
            exact hv _ List.mem_cons_self)⟩
        · cases e
def notStarA : List Expr → Bool := fun es => es.all notStar
theorem assignEach_len {env : PySem.Env} : ∀ es : List Expr, (assignEach es env).length = es.length
  | [] => rfl
  | e :: es => by
    have : (assignEach (e :: es) env).length = (assignEach es env).length + 1 := by cases e <;> rfl
    rw [this, assignEach_len es]; rfl
theorem assignEach_plain {env : PySem.Env} : ∀ {es : List Expr}, es.all notStar = true → (assignEach es env).findIdx? (·.1) = none
  | [], _ => rfl
  | e :: es, h => by
    simp only [List.all_cons, Bool.and_eq_true] at h
    have e1 : assignEach (e :: es) env = (false, assign e env) :: assignEach es env := by
      cases e <;> first | rfl | (simp [notStar] at h)
    rw [e1, List.findIdx?_cons, assignEach_plain h.2]
    rfl
theorem s_gtup {py : List Expr} {is : List Nat} {k : Nat} {pos : Pos} (hK : X.K = L.K) (hc : X.calm = true) (nd : X.N.Nodup) (h : TgOk X py is) : PG X (.Tuple py k pos) (tG L (.tup is)) := by
  have hs : py.all notStar = true := by
    induction h with
    | nil => rfl
    | cons h1 _ ih => exact ih
  have hl : py.length = is.length := h.length
  refine ⟨fun pins s σ H v u Q I r ⟨β, h', ρ, ρ', a, S, R, rv, e, kk⟩ => (pg_tup hc (s_gs (L := L) nd h) (assignEach_len py) (assignEach_plain hs)).run pins s σ H v u Q I r ?_⟩
  simp only [bindTg] at e
  split at e
  · rename_i as
    cases rv with
    | tup ht rs =>
      refine ⟨_, _, rfl, hK ▸ ht, ?_, β, h', ρ, ρ', as, S, R, rs, e, kk⟩
      rw [rs.length, hl]
      have : ∀ (ρ ρ' : Env) (is : List Nat) (as : List Val), setSlots ρ is as = some ρ' → as.length = is.length := by
        intro ρ ρ' is
        induction is generalizing ρ with
        | nil => intro as e; cases as with | nil => rfl | cons _ _ => cases e
        | cons i is ih =>
          intro as e
          cases as with
          | nil => cases e
          | cons a as =>
            simp only [setSlots] at e
            split at e
            · exact congrArg Nat.succ (ih _ _ e)
            · cases e
      exact this _ _ _ _ e
  · cases e
end
end MP

/-! Mp1i: assignments, loops -/
namespace MP
open PySem PySem.Spec PyProof.Rows L2

section
variable {X : Cx} {L : Lk} {F : Fns} {W : WX} {lv : Nat}
theorem s_set {i : Nat} {x : PySem.Str} {e : Expr} {m : E} {pos pos' : Pos} (nd : X.N.Nodup) (sx : Sto X i x) (hs : swapsWith e (some (.Name x pos')) pos.line X.env = pure false) (he : PE X e (tI L F W m)) : PS X (.Assign [.Name x pos'] e pos) (tS L F W (.asg (.name i) m)) := by
  refine pwS fun pins s σ H D I ⟨β, h, ρ, S, R, p⟩ => ⟨_, ps_set nd sx.at_ sx.loc he hs sx.fn, ?_⟩
  unfold exS at p
  refine tI_of S R (Sst.first S R p fun v h1 u β1 H1 _ x1 S1 r1 p1 => ?_)
  simp only [bindTg, setSlots] at p1
  split at p1
  · rename_i ρ' e'
    split at e'
    · cases e'
      exact p1 _ _ _ .refl S1 ((R.mono S x1).set r1 i)
    · cases e'
  · exact p1.elim
def notTup : Expr → Bool
  | .Tuple .. => false
  | _ => true
theorem s_setT {e : Expr} {m : E} {py : List Expr} {is : List Nat} {k : Nat} {pos tpos : Pos} (hK : X.K = L.K) (hc : X.calm = true) (nd : X.N.Nodup) (ht : TgOk X py is) (hn : notTup e = true) (he : PE X e (tI L F W m)) :
    PS X (.Assign [.Tuple py k tpos] e pos) (tS L F W (.asg (.tup is) m)) := by
  have h1 : swapsWithSole [.Tuple py k tpos] e pos.line X.env = pure false := by
    show swapsWith e (some (.Tuple py k tpos)) pos.line X.env = pure false
    cases e <;> rfl
  have h2 : swappedStores [.Tuple py k tpos] e X.env = pure none := by
    cases e <;> first | rfl | (simp [notTup] at hn)
  refine pwS fun pins s σ H D I ⟨β, h, ρ, S, R, p⟩ => ⟨_, ps_asg he (s_gtup (L := L) hK hc nd ht) h1 h2, ?_⟩
  unfold exS at p
  refine tI_of S R (Sst.first S R p fun v h1 u β1 H1 _ x1 S1 r1 p1 => ?_)
  cases e' : bindTg ρ (.tup is) v with
  | none => rw [e'] at p1; exact p1.elim
  | some ρ' =>
    rw [e'] at p1
    exact ⟨β1, h1, ρ, ρ', v, S1, R.mono S x1, r1, e', fun σ' R' _ => p1 _ _ _ .refl S1 R'⟩
def rAug (L : Lk) (o : Op) : TIp := fun x y H Q => ∃ (β : Bt) (h : Heap) (a b z : Val), Sim L β H h ∧ VR L β H x a ∧ VR L β H y b ∧ augV o a b = some z ∧ ∀ u, VR L β H u z → Q u H
theorem ip_aug {op : Operator} {o : Op} (ho : (op = .Add ∧ o = .add) ∨ (op = .Sub ∧ o = .sub)) : PIp X op (rAug L o) := by
  intro pins s σ H x y v u Q I r1 r2 ⟨β, h, a, b, z, S, ra, rb, e, k⟩
  rcases ho with ⟨rfl, rfl⟩ | ⟨rfl, rfl⟩
  · simp only [augV] at e
    split at e
    · cases ra; cases rb; cases e
      exact ip_add pins s σ H _ _ v u Q I r1 r2 ⟨_, _, rfl, rfl, k _ (.int _)⟩
    · cases e
  · simp only [augV] at e
    split at e
    · cases ra; cases rb; cases e
      exact ip_sub pins s σ H _ _ v u Q I r1 r2 ⟨_, _, rfl, rfl, k _ (.int _)⟩
    · cases e
theorem s_augN {i : Nat} {x : PySem.Str} {e : Expr} {m : E} {op : Operator} {o : Op} {pos pos' : Pos} (nd : X.N.Nodup) (sx : Sto X i x) (ho : (op = .Add ∧ o = .add) ∨ (op = .Sub ∧ o = .sub)) (he : PE X e (tI L F W m)) : PS X (.AugAssign (.Name x pos') op e pos) (tS L F W (.augN i o m)) := by
  refine pwS fun pins s σ H D I ⟨β, h, ρ, S, R, p⟩ => ⟨_, ps_aug nd sx.at_ sx.loc he (ip_aug (L := L) ho) sx.fn, ?_⟩
  unfold exS at p
  split at p
  · rename_i v ev
    obtain ⟨u, eu, ru⟩ := R.get i v ev
    refine ⟨u, eu, tI_of S R (Sst.first S R p fun w h1 u2 β1 H1 _ x1 S1 r1 p1 => ?_)⟩
    cases e' : augV o v w with
    | none => rw [e'] at p1; exact p1.elim
    | some z =>
      rw [e'] at p1
      exact ⟨β1, h1, v, w, z, S1, ru.mono S x1, r1, e', fun u3 r3 => p1 _ _ _ .refl S1 ((R.mono S x1).set r3 i)⟩
  · exact p.elim

/-! ### while -/
theorem s_whl {c : Expr} {body : List Stmt} {mc : E} {mb : List S} {pos : Pos} (hp : PassesOwn (model X.prog X.w) X.A X.env X.xe) (hc : PT X c (tT L F W mc)) (hb : PSs X body (tSs L F W mb)) : PS X (.While c body [] pos) (tS L F W (.whl mc mb)) := by
  refine pwS fun pins s σ H D I ⟨β, h, ρ, S, R, p⟩ => ⟨_, ps_while hp hc hb, ?_⟩
  unfold exS at p
  generalize hst : (fun (ρ : Env) (h : Heap) => _ : Env → Heap → WS) = step at p
  have nb : whileL step ρ h ≠ .bad := fun z => by rw [z] at p; exact p
  obtain ⟨n, hn⟩ := whileL_runs nb
  refine ⟨fun m σ H => ∃ β h ρ o, Sim L β H h ∧ ER L β H σ ρ ∧ wIter step m ρ h = some o ∧ Sst L β H o D W, ⟨n, β, h, ρ, _, S, R, hn, p⟩, ?_⟩
  rintro m σ H ⟨β, h, ρ, o, S, R, hw, q⟩
  cases m with
  | zero => cases hw
  | succ m =>
    simp only [wIter] at hw
    refine ⟨β, h, ρ, S, R, ?_⟩
    subst hst
    dsimp only at hw
    cases ee : evE L.T F mc ρ h with
    | ok v h' =>
      rw [ee] at hw
      dsimp only at hw
      cases et : MP.truthy h' v with
      | none => rw [et] at hw; cases hw; exact q.elim
      | some b =>
        rw [et] at hw
        refine ⟨b, et, fun β' H' x S' => ?_⟩
        cases b with
        | true =>
          dsimp only at hw
          refine iteT ⟨fun σ' H' => ∃ β h ρ o, Sim L β H' h ∧ ER L β H' σ' ρ ∧ wIter _ m ρ h = some o ∧ Sst L β H' o D W, fun σ' H' z => ⟨m, Nat.lt_succ_self _, z⟩, β', h', ρ, S', R.mono S x, ?_⟩
          cases eb : exB L.T F mb ρ h' with
          | nx ρ2 h2 => rw [eb] at hw; exact fun σ2 β2 H2 x2 S2 R2 => ⟨β2, h2, ρ2, o, S2, R2, hw, Sst.mono (x.trans x2) q⟩
          | ct ρ2 h2 => rw [eb] at hw; exact fun σ2 β2 H2 x2 S2 R2 => ⟨β2, h2, ρ2, o, S2, R2, hw, Sst.mono (x.trans x2) q⟩
          | bk ρ2 h2 => rw [eb] at hw; cases hw; exact fun σ2 β2 H2 x2 S2 R2 => q σ2 β2 H2 (x.trans x2) S2 R2
          | rt v2 h2 => rw [eb] at hw; cases hw; exact fun u2 β2 H2 x2 S2 R2 => q u2 β2 H2 (x.trans x2) S2 R2
          | exc y ρ2 h2 => rw [eb] at hw; cases hw; exact fun c d σ2 β2 H2 x2 S2 R2 E2 => q c d σ2 β2 H2 (x.trans x2) S2 R2 E2
          | bad => rw [eb] at hw; cases hw; exact q.elim
        | false =>
          dsimp only at hw
          cases hw
          exact iteF (q _ _ _ x S' (R.mono S x))
    | exc x h' => rw [ee] at hw; cases hw; exact fun c d β1 H1 y s r => q c d σ β1 H1 y s (R.mono S y) r
    | bad => rw [ee] at hw; cases hw; exact q.elim

/-! ### what is walked -/
def WalkOk (L : Lk) (J : It) (h0 : Heap) (ws items : List Val) (us : List V) : Prop := Walk J items.length (fun H => ∃ pv β h, Sim (L.pvs pv) β H h ∧ stays h0 h ws ∧ VRs (L.pvs pv) β H us ws)
  (fun i H x H' => ∀ pv β h, Sim (L.pvs pv) β H h → stays h0 h ws → VRs (L.pvs pv) β H us ws → ∃ v, items[i]? = some v ∧ Ext β H β H' ∧ Sim (L.pvs pv) β H' h ∧ VR (L.pvs pv) β H' x v)
def tWk (L : Lk) (F : Fns) (W : WX) (w : Nat) (it : List E) : TI := fun σ H R => ∃ (β : Bt) (h : Heap) (ρ : Env), Sim L β H h ∧ ER L β H σ ρ ∧ match evEs L.T F it ρ h with
  | .ok ws h1 => ∃ items, walkV h1 w ws = some items ∧ ∀ us β1 H1 J, Ext β H β1 H1 → Sim L β1 H1 h1 → VRs L β1 H1 us ws → WalkOk L J h1 ws items us → R J H1
  | .exc x h1 => ∀ cls d β' H', Ext β H β' H' → Sim L β' H' h1 → ExR L H' cls d x → W cls d σ H'
  | .bad => False
theorem pwPI {tg e : Expr} {t : TI} (k : ∀ pins s σ H R, L2.Inv X pins σ H s → t σ H R → ∃ t', PI X tg e t' ∧ t' σ H R) : PI X tg e t :=
  ⟨fun pins s σ H R I q => by obtain ⟨t', p, q'⟩ := k pins s σ H R I q; exact p.run pins s σ H R I q'⟩
end
section
variable {L : Lk}
theorem wk_list {a : Addr} {h0 : Heap} {b : Val} {items : List Val} (es : seqOf h0 b = some items) (nt : ∀ xs, b ≠ .tup xs) : WalkOk L (Itl L.K a) h0 [b] items [.ref a] := by
  have at_ : ∀ pv β H h, Sim (L.pvs pv) β H h → stays h0 h [b] → VRs (L.pvs pv) β H [.ref a] [b] → ∃ vs, SqL L.K H a vs ∧ VRs (L.pvs pv) β H vs items := fun pv β H h S st rs => by
    cases rs with
    | cons r _ =>
      cases r with
      | tup _ _ => exact absurd rfl (nt _)
      | lst ha _ rr => simp only [seqOf] at es; cases es; exact ⟨_, SqL.of ha, rr⟩
      | arr ha rr => simp only [seqOf] at es; cases es; exact ⟨_, ha.sql, rr⟩
      | ref hb =>
        simp only [seqOf] at es
        split at es
        · rename_i xs q
          cases es
          obtain ⟨vs, ha, rr⟩ := lst_at S hb (st.1.trans q)
          exact ⟨vs, SqL.of ha, rr⟩
        · cases es
      | fn _ => cases es
  refine ⟨fun i H hi ⟨pv, β, h, S, st, rs⟩ => ?_, fun H ⟨pv, β, h, S, st, rs⟩ => ?_, fun i H x H' hi _ y pv β h S st rs => ?_⟩
  · obtain ⟨vs, hs, rr⟩ := at_ pv β H h S st rs
    exact ⟨vs, vs[i]'(by rw [rr.length]; exact hi), hs, by simp [rr.length, hi]⟩
  · obtain ⟨vs, hs, rr⟩ := at_ pv β H h S st rs
    exact ⟨vs, hs, by rw [rr.length]; exact Nat.le_refl _⟩
  · obtain ⟨vs, hs, rr⟩ := at_ pv β H h S st rs
    obtain ⟨rfl, y⟩ := y
    have e1 := y vs hs
    obtain ⟨v', ev', rv'⟩ := rr.get (i := i) (x := items[i]'hi) (by simp [hi])
    rw [e1] at ev'
    cases ev'
    exact ⟨_, by simp [hi], .refl, S, rv'⟩
theorem wk_tup {a : Addr} {h0 : Heap} {items : List Val} : WalkOk L (Itt L.K a) h0 [.tup items] items [.ref a] := by
  have at_ : ∀ pv β H h, Sim (L.pvs pv) β H h → VRs (L.pvs pv) β H [.ref a] [.tup items] → ∃ vs, SqT L.K H a vs ∧ VRs (L.pvs pv) β H vs items := fun pv β H h S rs => by
    cases rs with
    | cons r _ => cases r with | tup ht rr => exact ⟨_, ht, rr⟩
  refine ⟨fun i H hi ⟨pv, β, h, S, st, rs⟩ => ?_, fun H ⟨pv, β, h, S, st, rs⟩ => ?_, fun i H x H' hi _ y pv β h S st rs => ?_⟩
  · obtain ⟨vs, hs, rr⟩ := at_ pv β H h S rs
    exact ⟨vs, vs[i]'(by rw [rr.length]; exact hi), hs, by simp [rr.length, hi]⟩
  · obtain ⟨vs, hs, rr⟩ := at_ pv β H h S rs
    exact ⟨vs, hs, by rw [rr.length]; exact Nat.le_refl _⟩
  · obtain ⟨vs, hs, rr⟩ := at_ pv β H h S rs
    obtain ⟨rfl, y⟩ := y
    have e1 := y vs hs
    obtain ⟨v', ev', rv'⟩ := rr.get (i := i) (x := items[i]'hi) (by simp [hi])
    rw [e1] at ev'
    cases ev'
    exact ⟨_, by simp [hi], .refl, S, rv'⟩
theorem wk_str {z : List Nat} {h0 : Heap} {us : List V} {ws : List Val} : WalkOk L (Its (tx z)) h0 ws (z.map fun c => .str [c]) us := by
  have hz : (tx z).cps.size = z.length := by simp [tx]
  refine ⟨fun i H hi _ => ?_, fun H _ => ?_, fun i H x H' hi _ y pv β h S st rs => ?_⟩
  · show i < (tx z).cps.size
    rw [hz]; simpa using hi
  · show (tx z).cps.size ≤ _
    rw [hz]; simp
  · obtain ⟨rfl, c, hc, rfl⟩ := y
    have hc : z[i]? = some c := by simpa [tx] using hc
    exact ⟨.str [c], by simp [hc], .refl, S, .str [c]⟩
theorem upto_len : ∀ (n : Nat) (lo : Int), (upto lo n).length = n
  | 0, _ => rfl
  | n + 1, lo => congrArg Nat.succ (upto_len n (lo + 1))
theorem upto_get : ∀ (n i : Nat) (lo : Int), i < n → (upto lo n)[i]? = some (.int (lo + i))
  | n + 1, 0, lo, _ => by simp [upto]
  | n + 1, i + 1, lo, h => by
    have := upto_get n i (lo + 1) (by omega)
    simp only [upto, List.getElem?_cons_succ, this]
    congr 2
    omega
theorem wk_range {lo : Int} {n : Nat} {h0 : Heap} {us : List V} {ws : List Val} : WalkOk L (Itr lo n) h0 ws (upto lo n) us := by
  refine ⟨fun i H hi _ => by rw [upto_len] at hi; exact hi, fun H _ => by rw [upto_len]; exact Nat.le_refl _, fun i H x H' hi _ y pv β h S st rs => ?_⟩
  rw [upto_len] at hi
  obtain ⟨rfl, rfl⟩ := y
  exact ⟨_, upto_get n i lo hi, .refl, S, .int _⟩
theorem enum_get : ∀ (xs : List Val) (i : Nat) (k : Int) (x : Val), xs[i]? = some x → (enumFrom k xs)[i]? = some (.tup [.int (k + i), x])
  | [], _, _, _, e => by simp at e
  | y :: xs, 0, k, x, e => by simp at e; subst e; simp [enumFrom]
  | y :: xs, i + 1, k, x, e => by
    have := enum_get xs i (k + 1) x (by simpa using e)
    simp only [enumFrom, List.getElem?_cons_succ, this]
    congr 4
    omega
theorem enum_len : ∀ (xs : List Val) (k : Int), (enumFrom k xs).length = xs.length
  | [], _ => rfl
  | _ :: xs, k => congrArg Nat.succ (enum_len xs (k + 1))
theorem pair_laid {β : Bt} {H : Hp} {h : Heap} (S : Sim L β H h) {T : Addr} {x y : V} {a b : Val} (e : H T = none) (rx : VR L β H x a) (ry : VR L β H y b) : Ext β H β (upd H T (.tup [x, y])) ∧ Sim L β (upd H T (.tup [x, y])) h ∧ VR L β (upd H T (.tup [x, y])) (.ref T) (.tup [a, b]) :=
  ⟨Ext.laid S e, S.laid e, .tup (SqT.of upd_same) (.cons (rx.mono S (Ext.laid S e)) (.cons (ry.mono S (Ext.laid S e)) .nil))⟩
theorem seq_at {β : Bt} {H : Hp} {h h0 : Heap} {a : Addr} {b : Val} {items : List Val} (es : seqOf h0 b = some items) (nt : ∀ xs, b ≠ .tup xs) (S : Sim L β H h) (st : stays h0 h [b]) (r : VR L β H (.ref a) b) : ∃ vs, SqL L.K H a vs ∧ VRs L β H vs items := by
  cases r with
  | tup _ _ => exact absurd rfl (nt _)
  | lst ha _ rr => simp only [seqOf] at es; cases es; exact ⟨_, SqL.of ha, rr⟩
  | arr ha rr => simp only [seqOf] at es; cases es; exact ⟨_, ha.sql, rr⟩
  | ref hb =>
    simp only [seqOf] at es
    split at es
    · rename_i xs q
      cases es
      obtain ⟨vs, ha, rr⟩ := lst_at S hb (st.1.trans q)
      exact ⟨vs, SqL.of ha, rr⟩
    · cases es
  | fn _ => cases es
theorem wk_enum {a : Addr} {h0 : Heap} {b : Val} {items : List Val} (es : seqOf h0 b = some items) (nt : ∀ xs, b ≠ .tup xs) : WalkOk L (Ite L.K a) h0 [b] (enumFrom 0 items) [.ref a] := by
  have hd : ∀ pv β H, VRs (L.pvs pv) β H [.ref a] [b] → VR (L.pvs pv) β H (.ref a) b := fun pv β H rs => by cases rs with | cons r _ => exact r
  refine ⟨fun i H hi ⟨pv, β, h, S, st, rs⟩ => ?_, fun H ⟨pv, β, h, S, st, rs⟩ => ?_, fun i H x H' hi _ y pv β h S st rs => ?_⟩
  · rw [enum_len] at hi
    obtain ⟨vs, hs, rr⟩ := seq_at (L := L.pvs pv) es nt S st (hd pv β H rs)
    exact ⟨vs, vs[i]'(by rw [rr.length]; exact hi), hs, by simp [rr.length, hi]⟩
  · obtain ⟨vs, hs, rr⟩ := seq_at (L := L.pvs pv) es nt S st (hd pv β H rs)
    exact ⟨vs, hs, by rw [rr.length, enum_len]; exact Nat.le_refl _⟩
  · rw [enum_len] at hi
    obtain ⟨vs, hs, rr⟩ := seq_at (L := L.pvs pv) es nt S st (hd pv β H rs)
    obtain ⟨T, z, rfl, h2, rfl, h4⟩ := y
    have e1 := h4 vs hs
    obtain ⟨v', ev', rv'⟩ := rr.get (i := i) (x := items[i]'hi) (by simp [hi])
    rw [e1] at ev'
    cases ev'
    obtain ⟨q1, q2, q3⟩ := pair_laid S h2 (.int (i : Nat)) rv'
    refine ⟨.tup [.int ((0 : Int) + (i : Nat)), items[i]], enum_get items i 0 _ (by simp [hi]), q1, q2, ?_⟩
    rw [Int.zero_add]
    exact q3
theorem zip_len : ∀ (xs ys : List Val), (zipV xs ys).length = min xs.length ys.length
  | [], _ => by simp [zipV]
  | _ :: _, [] => by simp [zipV]
  | _ :: xs, _ :: ys => by simp only [zipV, List.length_cons, zip_len xs ys]; omega
theorem zip_get : ∀ (xs ys : List Val) (i : Nat) (x y : Val), xs[i]? = some x → ys[i]? = some y → (zipV xs ys)[i]? = some (.tup [x, y])
  | [], _, _, _, _, e, _ => by simp at e
  | _ :: _, [], _, _, _, _, e => by simp at e
  | _ :: xs, _ :: ys, 0, x, y, e, f => by simp at e f; subst e f; rfl
  | _ :: xs, _ :: ys, i + 1, x, y, e, f => by
    simp only [zipV, List.getElem?_cons_succ]
    exact zip_get xs ys i x y (by simpa using e) (by simpa using f)
end
section
variable {X : Cx} {L : Lk} {F : Fns} {W : WX} {lv : Nat}
theorem s_w0 {tg e : Expr} {m : E} (hK : X.K = L.K) (he : PE X e (tI L F W m)) : PI X tg e (tWk L F W 0 [m]) := by
  refine pwPI fun pins s σ H R I ⟨β, h, ρ, S, Re, p⟩ => ?_
  rw [evEs_cons] at p
  cases ee : evE L.T F m ρ h with
  | ok v h1 =>
    rw [ee] at p
    dsimp only [Out.bind] at p
    rw [evEs_nil] at p
    dsimp only at p
    obtain ⟨items, ei, k⟩ := p
    have seqs : seqOf h1 v = some items → (∀ xs, v ≠ .tup xs) → ∃ t', PI X tg e t' ∧ t' σ H R := fun es nt => ⟨_, pi_list he, tI_of S Re (by
      rw [ee]
      intro u β1 H1 x1 S1 r1
      obtain ⟨a, vs, rfl, rs, hs⟩ := seq_of S1 r1 es
      refine ⟨a, rfl, ?_, ?_⟩
      · cases r1 with
        | tup _ _ => exact absurd rfl (nt _)
        | lst ha _ _ => exact ⟨_, SqL.of ha⟩
        | arr ha _ => exact ⟨_, hK ▸ ha.sql⟩
        | ref hb =>
          simp only [seqOf] at es
          split at es
          · rename_i xs q
            obtain ⟨vs, ha, _⟩ := lst_at S1 hb q
            exact ⟨vs, SqL.of ha⟩
          · cases es
        | fn _ => cases es
      · rw [hK]; exact k _ β1 H1 _ x1 S1 (.cons r1 .nil) (wk_list es nt))⟩
    cases v with
    | str z =>
      cases ei
      exact ⟨_, pi_str he, tI_of S Re (by
        rw [ee]
        intro u β1 H1 x1 S1 r1
        cases r1
        exact ⟨_, rfl, k [V.str (tx z)] β1 H1 _ x1 S1 (.cons (.str z) .nil) wk_str⟩)⟩
    | tup xs =>
      cases ei
      exact ⟨_, pi_tup he, tI_of S Re (by
        rw [ee]
        intro u β1 H1 x1 S1 r1
        cases r1 with
        | tup ht rr =>
          refine ⟨_, rfl, ⟨_, hK ▸ ht⟩, ?_⟩
          rw [hK]
          exact k _ β1 H1 _ x1 S1 (.cons (.tup ht rr) .nil) wk_tup)⟩
    | lst xs => exact seqs ei (fun _ z => by cases z)
    | arr xs => exact seqs ei (fun _ z => by cases z)
    | ref r => exact seqs ei (fun _ z => by cases z)
    | non => cases ei
    | bl _ => cases ei
    | int _ => cases ei
    | fn _ => cases ei
  | exc x h1 =>
    rw [ee] at p
    exact ⟨_, pi_list he, tI_of S Re (by rw [ee]; exact p)⟩
  | bad => rw [ee] at p; exact p.elim
theorem s_w2 {tg a : Expr} {ms : List E} {p pos : Pos} (hs : notStar a = true) (hg : Gl X "range") (hm : X.mg "range" = none) (ha : PA X [a] (tIs L F W ms)) : PI X tg (.Call (.Name "range" p) [a] [] pos) (tWk L F W 2 ms) := by
  refine pwPI fun pins s σ H R I ⟨β, h, ρ, S, Re, q⟩ => ⟨_, pi_range1 hg hm ha (starEach_of hs), tIs_of S Re ?_⟩
  cases ee : evEs L.T F ms ρ h with
  | ok ws h1 =>
    rw [ee] at q
    obtain ⟨items, ei, k⟩ := q
    intro us β1 H1 x1 S1 r1
    unfold walkV at ei
    split at ei
    all_goals first | contradiction | skip
    rename_i n _
    obtain ⟨hr, rfl⟩ := ite_some ei
    cases r1 with
    | cons r t =>
      cases t; cases r
      exact ⟨n, rfl, hr.1, hr.2, k _ β1 H1 _ x1 S1 (.cons (.int n) .nil) wk_range⟩
  | exc x h1 => rw [ee] at q; exact q
  | bad => rw [ee] at q; exact q.elim
theorem s_w3 {tg a b : Expr} {ms : List E} {p pos : Pos} (hs : notStar a = true) (hs2 : notStar b = true) (hg : Gl X "range") (hm : X.mg "range" = none) (ha : PA X [a, b] (tIs L F W ms)) : PI X tg (.Call (.Name "range" p) [a, b] [] pos) (tWk L F W 3 ms) := by
  refine pwPI fun pins s σ H R I ⟨β, h, ρ, S, Re, q⟩ => ⟨_, pi_range2 hg hm ha ((starEach_of hs).trans (by rw [starEach_of hs2]; rfl)) (starEach_of hs2), tIs_of S Re ?_⟩
  cases ee : evEs L.T F ms ρ h with
  | ok ws h1 =>
    rw [ee] at q
    obtain ⟨items, ei, k⟩ := q
    intro us β1 H1 x1 S1 r1
    unfold walkV at ei
    split at ei
    all_goals first | contradiction | skip
    rename_i i j _
    obtain ⟨hr, rfl⟩ := ite_some ei
    cases r1 with
    | cons r t =>
      cases t with
      | cons r2 t =>
        cases t; cases r; cases r2
        exact ⟨i, j, rfl, ⟨hr.1.1, hr.1.2, hr.2.1, hr.2.2⟩, k _ β1 H1 _ x1 S1 (.cons (.int i) (.cons (.int j) .nil)) wk_range⟩
  | exc x h1 => rw [ee] at q; exact q
  | bad => rw [ee] at q; exact q.elim

/-! ### for -/
theorem exS_loop (T : Tb) {tg : Tg} {w : Nat} {it : List E} {body : List S} {ρ : Env} {h : Heap} (hw : w ≠ 1) : exS T F (.loop tg w it body) ρ h = (evEs T F it ρ h).stm ρ fun ws h => match walkV h w ws with
    | some items => forL (fun h' => stays h h' ws) (fun v ρ h => match bindTg ρ tg v with
      | some ρ' => exB T F body ρ' h
      | none => .bad) items ρ h
    | none => .bad := by
  conv => lhs; unfold exS
  split
  · exact absurd rfl hw
  · rfl
theorem stays_refl {h0 : Heap} : ∀ {ws : List Val}, stays h0 h0 ws
  | [] => trivial
  | v :: t => by
    have := stays_refl (h0 := h0) (ws := t)
    cases v <;> first | exact this | exact ⟨rfl, this⟩
theorem s_for {ptg iter : Expr} {body : List Stmt} {tg : Tg} {w : Nat} {it : List E} {mb : List S} {pos : Pos} (hp : PassesOwn (model X.prog X.w) X.A X.env X.xe) (hc : X.calm = true) (hw : w ≠ 1) (hn : notSet iter = true) (hi : PI X ptg iter (tWk L F W w it)) (hg : PG X ptg (tG L tg)) (hb : PSs X body (tSs L F W mb)) :
    PS X (.For ptg iter body [] pos) (tS L F W (.loop tg w it mb)) := by
  refine pwS fun pins s σ H D I ⟨β, h, ρ, S, R, p⟩ => ⟨_, ps_for hp hc hi hg hb (fun x => by cases iter <;> first | rfl | (simp [notSet] at hn)), ?_⟩
  rw [exS_loop _ hw] at p
  refine ⟨β, h, ρ, S, R, ?_⟩
  cases ee : evEs L.T F it ρ h with
  | ok ws h1 =>
    rw [ee] at p
    dsimp only [Out.stm] at p
    cases ei : walkV h1 w ws with
    | none => rw [ei] at p; exact p.elim
    | some items =>
      rw [ei] at p
      dsimp only at p
      refine ⟨items, ei, fun us β1 H1 J x1 S1 r1 wk => ?_⟩
      generalize hturn : (fun (v : Val) (ρ : Env) (h : Heap) => _ : Val → Env → Heap → SO) = turn at p
      refine for_it wk (fun i σ2 H2 => ∃ β2 h2 ρ2, Sim L β2 H2 h2 ∧ ER L β2 H2 σ2 ρ2 ∧ Ext β1 H1 β2 H2 ∧ stays h1 h2 ws ∧ Sst L β2 H2 (forL (fun h' => stays h1 h' ws) turn (items.drop i) ρ2 h2) D W) ?_ ?_ ?_ ?_
      · exact ⟨β1, h1, ρ, S1, R.mono S x1, .refl, stays_refl, by rw [List.drop_zero]; exact Sst.mono x1 p⟩
      · rintro i σ2 H2 _ ⟨β2, h2, ρ2, S2, R2, x2, st2, p2⟩
        exact ⟨L.pv, β2, h2, S2, st2, r1.mono S1 x2⟩
      · rintro i x σ2 H2 H3 hi ⟨β2, h2, ρ2, S2, R2, x2, st2, p2⟩ y
        obtain ⟨v, ev, x3, S3, rv⟩ := y L.pv β2 h2 S2 st2 (r1.mono S1 x2)
        have hd : items.drop i = v :: items.drop (i + 1) := by
          rw [List.drop_eq_getElem_cons hi]
          congr 1
          rw [List.getElem?_eq_getElem hi] at ev
          exact Option.some.inj ev
        rw [hd] at p2
        simp only [forL] at p2
        have hv : turn v ρ2 h2 = match bindTg ρ2 tg v with
          | some ρ' => exB L.T F mb ρ' h2
          | none => .bad := by rw [← hturn]
        cases eb : bindTg ρ2 tg v with
        | none => rw [hv, eb] at p2; exact p2.elim
        | some ρ3 =>
          rw [hv, eb] at p2
          refine ⟨β2, h2, ρ2, ρ3, v, S3, R2.mono S2 x3, rv, eb, fun σ' R' _ => ⟨β2, h2, ρ3, S3, R', ?_⟩⟩
          dsimp only at p2
          have again : ∀ {ρ4 : Env} {h4 : Heap}, Sst L β2 H2 (@ite _ (stays h1 h4 ws) (Classical.propDecidable _) (forL (fun h' => stays h1 h' ws) turn (items.drop (i + 1)) ρ4 h4) .bad) D W → ∀ σ4 β4 H4, Ext β2 H3 β4 H4 → Sim L β4 H4 h4 → ER L β4 H4 σ4 ρ4 →
              ∃ β2 h2 ρ2, Sim L β2 H4 h2 ∧ ER L β2 H4 σ4 ρ2 ∧ Ext β1 H1 β2 H4 ∧ stays h1 h2 ws ∧ Sst L β2 H4 (forL (fun h' => stays h1 h' ws) turn (items.drop (i + 1)) ρ2 h2) D W := fun {ρ4 h4} q σ4 β4 H4 x4 S4 R4 => by
            split at q
            · rename_i st4
              exact ⟨β4, h4, ρ4, S4, R4, x2.trans (x3.trans x4), st4, Sst.mono (x3.trans x4) q⟩
            · exact q.elim
          cases eo : exB L.T F mb ρ3 h2 with
          | nx ρ4 h4 => rw [eo] at p2; exact again p2
          | ct ρ4 h4 => rw [eo] at p2; exact again p2
          | bk ρ4 h4 => rw [eo] at p2; exact fun σ4 β4 H4 x4 S4 R4 => p2 σ4 β4 H4 (x3.trans x4) S4 R4
          | rt v4 h4 => rw [eo] at p2; exact fun u4 β4 H4 x4 S4 R4 => p2 u4 β4 H4 (x3.trans x4) S4 R4
          | exc z ρ4 h4 => rw [eo] at p2; exact fun c d σ4 β4 H4 x4 S4 R4 E4 => p2 c d σ4 β4 H4 (x3.trans x4) S4 R4 E4
          | bad => rw [eo] at p2; exact p2.elim
      · rintro σ2 H2 ⟨β2, h2, ρ2, S2, R2, x2, st2, p2⟩
        rw [List.drop_length] at p2
        exact p2 _ _ _ .refl S2 R2
  | exc x h1 => rw [ee] at p; exact fun c d β1 H1 y s r => p c d σ β1 H1 y s (R.mono S y) r
  | bad => rw [ee] at p; exact p.elim
end
end MP

/-! Mp1j: comprehensions -/
namespace MP
open PySem PySem.Spec PyProof.Rows L2

/-- the list at D is being made -/
@[reducible] def Lk.hide (L : Lk) (D : Addr) : Lk := L.pvs fun a => L.pv a ∨ a = D

/-! ### a list is hidden, grows, comes out -/
section
variable {L : Lk} {β : Bt} {H : Hp} {h : Heap} {D : Addr} {o : HO}
theorem sqt_laid (e : H D = none) {a : Addr} {vs : List V} (q : SqT L.K H a vs) : SqT L.K (upd H D o) a vs := by
  have k : ∀ b u, H b = some u → (upd H D o) b = some u := fun b u z => by rw [upd_ne (ne_of_none z e)]; exact z
  rcases q with (q | ⟨ob, q⟩) | q
  · exact .inl (.inl (k _ _ q))
  · exact .inl (.inr ⟨ob, k _ _ q⟩)
  · exact .inr q
theorem arr_hide (e : H D = none) {a : Addr} {vs : List V} (q : ArrAt L β H a vs) : ArrAt (L.hide D) β (upd H D o) a vs := by
  have k : ∀ b u, H b = some u → (upd H D o) b = some u := fun b u z => by rw [upd_ne (ne_of_none z e)]; exact z
  rcases q with ⟨q, n⟩ | ⟨ob, q⟩ | q
  · exact .inl ⟨k _ _ q, (fun z => by
      rcases z with z | z
      · exact n.1 z
      · rw [z, e] at q; cases q), n.2⟩
  · exact .inr (.inl ⟨ob, k _ _ q⟩)
  · exact .inr (.inr q)
mutual
theorem VR.hideLaid (e : H D = none) : ∀ {v : V} {x : Val}, VR L β H v x → VR (L.hide D) β (upd H D o) v x
  | _, _, .non => .non
  | _, _, .bl b => .bl b
  | _, _, .int i => .int i
  | _, _, .str s => .str s
  | _, _, .tup q r => .tup (sqt_laid e q) (VRs.hideLaid e r)
  | _, _, .lst q n r => .lst (by rw [upd_ne (ne_of_none q e)]; exact q) ⟨(fun z => by
      rcases z with z | z
      · exact n.1 z
      · rw [z, e] at q; cases q), n.2⟩ (VRs.hideLaid e r)
  | _, _, .arr q r => .arr (arr_hide e q) (VRs.hideLaid e r)
  | _, _, .ref q => .ref q
  | _, _, .fn k => .fn (L := L.hide D) k
theorem VRs.hideLaid (e : H D = none) : ∀ {vs : List V} {xs : List Val}, VRs L β H vs xs → VRs (L.hide D) β (upd H D o) vs xs
  | _, _, .nil => .nil
  | _, _, .cons r t => .cons (VR.hideLaid e r) (VRs.hideLaid e t)
end
/-- to another relation, pointwise -/
theorem KR.to {L' : Lk} {β' : Bt} {H' : Hp} (f : ∀ {v : V} {x : Val}, VR L β H v x → VR L' β' H' v x) : ∀ {ps : List (Key × V)} {qs : List (Val × Val)}, KR L β H ps qs → KR L' β' H' ps qs
  | _, _, .nil => .nil
  | _, _, .cons e r t => .cons e (f r) (KR.to f t)
theorem FR.to {L' : Lk} {β' : Bt} {H' : Hp} (nm : L'.nm = L.nm) (f : ∀ {v : V} {x : Val}, VR L β H v x → VR L' β' H' v x) : ∀ {ps : List (PySem.Str × V)} {qs : List (Nat × Val)}, FR L β H ps qs → FR L' β' H' ps qs
  | _, _, .nil => .nil
  | _, _, .cons r t => nm ▸ .cons (f r) (FR.to nm f t)
theorem CR.to {pv : Addr → Prop} {β' : Bt} {H' : Hp} (f : ∀ {v : V} {x : Val}, VR L β H v x → VR (L.pvs pv) β' H' v x) (g : ∀ {vs : List V} {xs : List Val}, VRs L β H vs xs → VRs (L.pvs pv) β' H' vs xs) {a : Addr} {c : Cell} (e : H' a = H a) (r : CR L β H a c) : CR (L.pvs pv) β' H' a c := by
  cases c with
  | lst xs => obtain ⟨vs, q, t⟩ := r; exact ⟨vs, e.trans q, g t⟩
  | dic kvs b =>
    cases b with
    | false => obtain ⟨ps, q, t⟩ := r; exact ⟨ps, e.trans q, t.to f⟩
    | true => obtain ⟨ps, o, q, t⟩ := r; exact ⟨ps, o, e.trans q, t.to f⟩
  | ins c fs => obtain ⟨w1, w2, dx, ps, q, t⟩ := r; exact ⟨w1, w2, dx, ps, e.trans q, FR.to (L := L) (L' := L.pvs pv) rfl f t⟩
theorem Sim.hideLaid (S : Sim L β H h) (e : H D = none) : Sim (L.hide D) β (upd H D o) h where
  fwd := S.fwd
  bwd := fun r a q => by
    obtain ⟨l, c, hc, x⟩ := S.bwd r a q
    exact ⟨l, c, hc, x.to (VR.hideLaid e) (VRs.hideLaid e) (upd_ne fun z => S.free e r (by rw [q, z]))⟩
  inj := S.inj
  priv := fun a q => by
    rcases q with q | q
    · exact ⟨(Ext.laid S e).there a (S.priv a q).1, (S.priv a q).2⟩
    · rw [q, upd_same]; exact ⟨by simp, S.free e⟩
theorem ER.hideLaid {σ : L2.St} {ρ : Env} (R : ER L β H σ ρ) (e : H D = none) : ER (L.hide D) β (upd H D o) σ ρ :=
  ⟨R.len, fun i v q => by obtain ⟨u, a, b⟩ := R.get i v q; exact ⟨u, a, b.hideLaid e⟩⟩

variable {acc acc' : List V}
theorem sqt_touch (e : H D = some (.lst acc)) {a : Addr} {vs : List V} (q : SqT L.K H a vs) : SqT L.K (upd H D (.lst acc')) a vs := by
  have k : ∀ b u, H b = some u → u ≠ .lst acc → (upd H D (.lst acc')) b = some u := fun b u z n => by
    rw [upd_ne (fun w => by rw [w, e] at z; exact n (Option.some.inj z).symm)]; exact z
  rcases q with (q | ⟨ob, q⟩) | q
  · exact .inl (.inl (k _ _ q (by intro z; cases z)))
  · exact .inl (.inr ⟨ob, k _ _ q (by intro z; cases z)⟩)
  · exact .inr q
theorem arr_touch (p : L.pv D) (e : H D = some (.lst acc)) {a : Addr} {vs : List V} (q : ArrAt L β H a vs) : ArrAt L β (upd H D (.lst acc')) a vs := by
  rcases q with ⟨q, n⟩ | ⟨ob, q⟩ | q
  · exact .inl ⟨by rw [upd_ne (fun w => n.1 (by rw [w]; exact p))]; exact q, n⟩
  · exact .inr (.inl ⟨ob, by rw [upd_ne (fun w => by rw [w, e] at q; cases q)]; exact q⟩)
  · exact .inr (.inr q)
mutual
theorem VR.touch (p : L.pv D) (e : H D = some (.lst acc)) : ∀ {v : V} {x : Val}, VR L β H v x → VR L β (upd H D (.lst acc')) v x
  | _, _, .non => .non
  | _, _, .bl b => .bl b
  | _, _, .int i => .int i
  | _, _, .str s => .str s
  | _, _, .tup q r => .tup (sqt_touch e q) (VRs.touch p e r)
  | _, _, .lst q n r => .lst (by rw [upd_ne (fun w => n.1 (by rw [w]; exact p))]; exact q) n (VRs.touch p e r)
  | _, _, .arr q r => .arr (arr_touch p e q) (VRs.touch p e r)
  | _, _, .ref q => .ref q
  | _, _, .fn k => .fn k
theorem VRs.touch (p : L.pv D) (e : H D = some (.lst acc)) : ∀ {vs : List V} {xs : List Val}, VRs L β H vs xs → VRs L β (upd H D (.lst acc')) vs xs
  | _, _, .nil => .nil
  | _, _, .cons r t => .cons (VR.touch p e r) (VRs.touch p e t)
end
theorem Sim.touch (S : Sim L β H h) (p : L.pv D) (e : H D = some (.lst acc)) : Sim L β (upd H D (.lst acc')) h where
  fwd := S.fwd
  bwd := fun r a q => by
    obtain ⟨l, c, hc, x⟩ := S.bwd r a q
    exact ⟨l, c, hc, CR.to (pv := L.pv) (VR.touch p e) (VRs.touch p e) (upd_ne fun z => (S.priv D p).2 r (by rw [q, z])) x⟩
  inj := S.inj
  priv := fun a q => ⟨by
    by_cases z : a = D
    · rw [z, upd_same]; simp
    · rw [upd_ne z]; exact (S.priv a q).1, (S.priv a q).2⟩

mutual
theorem VR.show {pv : Addr → Prop} (hp : ∀ a, L.pv a → pv a) : ∀ {v : V} {x : Val}, VR (L.pvs pv) β H v x → VR L β H v x
  | _, _, .non => .non
  | _, _, .bl b => .bl b
  | _, _, .int i => .int i
  | _, _, .str s => .str s
  | _, _, .tup q r => .tup q (VRs.show hp r)
  | _, _, .lst q n r => .lst q ⟨fun z => n.1 (hp _ z), n.2⟩ (VRs.show hp r)
  | _, _, .arr q r => .arr (by
      rcases q with ⟨q, n⟩ | q
      · exact .inl ⟨q, fun z => n.1 (hp _ z), n.2⟩
      · exact .inr q) (VRs.show hp r)
  | _, _, .ref q => .ref q
  | _, _, .fn k => .fn (L := L) k
theorem VRs.show {pv : Addr → Prop} (hp : ∀ a, L.pv a → pv a) : ∀ {vs : List V} {xs : List Val}, VRs (L.pvs pv) β H vs xs → VRs L β H vs xs
  | _, _, .nil => .nil
  | _, _, .cons r t => .cons (VR.show hp r) (VRs.show hp t)
end
theorem Sim.show {pv : Addr → Prop} (hp : ∀ a, L.pv a → pv a) (S : Sim (L.pvs pv) β H h) : Sim L β H h where
  fwd := S.fwd
  bwd := fun r a q => by
    obtain ⟨l, c, hc, x⟩ := S.bwd r a q
    exact ⟨l, c, hc, CR.to (L := L.pvs pv) (pv := L.pv) (VR.show hp) (VRs.show hp) rfl x⟩
  inj := S.inj
  priv := fun a q => S.priv a (hp a q)

mutual
theorem VR.born {n : Nat} (f : β n = none) : ∀ {v : V} {x : Val}, VR (L.hide D) β H v x → VR L (bnd β n D) H v x
  | _, _, .non => .non
  | _, _, .bl b => .bl b
  | _, _, .int i => .int i
  | _, _, .str s => .str s
  | _, _, .tup q r => .tup q (VRs.born f r)
  | _, _, .lst q m r => .lst q ⟨fun z => m.1 (.inl z), fun k z => by
      by_cases w : k = n
      · subst w; rw [bnd_same] at z; cases z; exact m.1 (.inr rfl)
      · rw [bnd_ne w] at z; exact m.2 k z⟩ (VRs.born f r)
  | _, _, .arr q r => .arr (by
      rcases q with ⟨q, m⟩ | q
      · exact .inl ⟨q, fun z => m.1 (.inl z), fun k z => by
          by_cases w : k = n
          · subst w; rw [bnd_same] at z; cases z; exact m.1 (.inr rfl)
          · rw [bnd_ne w] at z; exact m.2 k z⟩
      · exact .inr q) (VRs.born f r)
  | _, _, .ref (r := k) q => .ref (by
      by_cases w : k = n
      · subst w; rw [f] at q; cases q
      · rw [bnd_ne w]; exact q)
  | _, _, .fn k => .fn (L := L) k
theorem VRs.born {n : Nat} (f : β n = none) : ∀ {vs : List V} {xs : List Val}, VRs (L.hide D) β H vs xs → VRs L (bnd β n D) H vs xs
  | _, _, .nil => .nil
  | _, _, .cons r t => .cons (VR.born f r) (VRs.born f t)
end
theorem Sim.born (S : Sim (L.hide D) β H h) (np : ¬ L.pv D) {ys : List Val} (e : H D = some (.lst acc)) (r : VRs (L.hide D) β H acc ys) : Sim L (bnd β h.n D) H (h.push (.lst ys)) where
  fwd := fun k d q => by
    by_cases z : k = h.n
    · subst z; exact ⟨D, bnd_same⟩
    · have q' : h.c k = some d := by
        have : (if k = h.n then some (Cell.lst ys) else h.c k) = some d := q
        rwa [if_neg z] at this
      obtain ⟨a, y⟩ := S.fwd k d q'
      exact ⟨a, by rw [bnd_ne z]; exact y⟩
  bwd := fun k a q => by
    by_cases z : k = h.n
    · subst z
      rw [bnd_same] at q; cases q
      exact ⟨Nat.lt_succ_self _, .lst ys, if_pos rfl, acc, e, r.born S.fresh⟩
    · rw [bnd_ne z] at q
      obtain ⟨l, d, hd, y⟩ := S.bwd k a q
      exact ⟨Nat.lt_succ_of_lt l, d, by show (if k = h.n then some _ else h.c k) = some d; rw [if_neg z]; exact hd, CR.to (L := L.hide D) (pv := L.pv) (VR.born S.fresh) (VRs.born S.fresh) rfl y⟩
  inj := fun k q a h1 h2 => by
    have un := (S.priv D (.inr rfl)).2
    by_cases z : k = h.n
    · by_cases w : q = h.n
      · rw [z, w]
      · subst z
        rw [bnd_same] at h1; cases h1
        rw [bnd_ne w] at h2
        exact absurd h2 (un q)
    · rw [bnd_ne z] at h1
      by_cases w : q = h.n
      · subst w
        rw [bnd_same] at h2; cases h2
        exact absurd h1 (un k)
      · rw [bnd_ne w] at h2
        exact S.inj k q a h1 h2
  priv := fun a q => ⟨(S.priv a (.inl q)).1, fun k w => by
    by_cases z : k = h.n
    · subst z
      rw [bnd_same] at w
      cases w
      exact np q
    · rw [bnd_ne z] at w
      exact (S.priv a (.inl q)).2 k w⟩
end
theorem wipe_wipe {σ : L2.St} : ∀ {us vs : List Nat}, (∀ i ∈ us, i ∈ vs) → L2.wipe (L2.wipe σ us) vs = L2.wipe σ vs
  | [], _, _ => rfl
  | u :: us, vs, h => by
    show L2.wipe ((L2.wipe σ us).set u none) vs = _
    rw [wipe_set (h u List.mem_cons_self)]
    exact wipe_wipe fun i hi => h i (List.mem_cons_of_mem _ hi)
def tgSlots : Tg → List Nat
  | .name i => [i]
  | .tup is => is
def noW : WX := fun _ _ _ _ => False
/-- what a comprehension's turn does -/
noncomputable def cStep (T : Tb) (F : Fns) (elt : E) (tg : Tg) (ifs : List E) (vs : List Nat) (ρ : Env) : Val → Heap → Out (List Val) := fun v h => match bindTg (wipeS ρ vs) tg v with
  | some ρ' => (evEs T F ifs ρ' h).bind fun bs h => match bs with
    | [] => (evE T F elt ρ' h).bind fun y h => .ok [y] h
    | [b] => match MP.truthy h b with
      | some true => (evE T F elt ρ' h).bind fun y h => .ok [y] h
      | some false => .ok [] h
      | none => .bad
    | _ => .bad
  | none => .bad
theorem evE_comp (T : Tb) (F : Fns) {new : Bool} {elt : E} {tg : Tg} {w : Nat} {it ifs : List E} {vs : List Nat} {ρ : Env} {h : Heap} (hw : w ≠ 1) : evE T F (.comp new elt tg w it ifs vs) ρ h = (evEs T F it ρ h).bind fun ws h => match walkV h w ws with
    | some items => match compL (fun h' => stays h h' ws) (cStep T F elt tg ifs vs ρ) items h with
      | .ok ys h2 => newL new ys h2
      | _ => .bad
    | none => .bad := by
  conv => lhs; unfold evE
  dsimp only
  split
  · exact absurd rfl hw
  · rfl
section
variable {X : Cx} {L : Lk} {F : Fns} {W : WX} {lv : Nat}
theorem s_comp_of {elt ptg iter : Expr} {ifs : List Expr} {scope : Scope} {own : List (PySem.Str × Nat)} {pos : Pos} {new : Bool} {me : E} {tg : Tg} {w : Nat} {it mifs : List E} {wi : TI} {g : TG} {tt : TT} {te : TE}
    (hg : g = fun v σ H Q => ∃ pv, tG (L.pvs pv) tg v σ H Q) (hte : te = fun σ H Q => ∃ pv, tI (L.pvs pv) F noW me σ H Q) (hwi : wi = tWk L F W w it)
    (htt : (mifs = [] ∧ tt = tYes) ∨ ∃ c, mifs = [c] ∧ tt = fun σ H Q => ∃ pv, tT (L.pvs pv) F noW c σ H Q)
    (hw : w ≠ 1) (hs : ∀ i ∈ tgSlots tg, i ∈ own.map (·.2)) {σ : L2.St} {H : Hp} {Q : VK} {β : Bt} {h : Heap} {ρ : Env} (S : Sim L β H h) (R : ER L β H σ ρ)
    (p : Pst L β H (evE L.T F (.comp new me tg w it mifs (own.map (·.2))) ρ h) Q fun c d H' => W c d σ H') : tLc wi g tt te (own.map (·.2)) σ H Q := by
  subst hg hte hwi
  rw [evE_comp _ _ hw] at p
  generalize hvs : own.map (·.2) = vs at *
  refine ⟨β, h, ρ, S, R, ?_⟩
  cases ee : evEs L.T F it ρ h with
  | ok ws h1 =>
    rw [ee] at p
    dsimp only [Out.bind] at p
    cases ei : walkV h1 w ws with
    | none => rw [ei] at p; exact p.elim
    | some items =>
      rw [ei] at p
      dsimp only at p
      refine ⟨items, ei, fun us β1 H1 J x1 S1 r1 wk D hD => ?_⟩
      cases ec : compL (fun h' => stays h1 h' ws) (cStep L.T F me tg mifs vs ρ) items h1 with
      | ok ys hf =>
        rw [ec] at p
        dsimp only at p
        have p1 := Pst.mono x1 p
        have np : ¬ L.pv D := fun z => (S1.priv D z).1 hD
        have hl : ys.length ≤ line := by
          unfold newL at p1
          split at p1
          · assumption
          · exact p1.elim
        have R1 := R.mono S x1
        refine lc_it (g := fun v σ H Q => ∃ pv, tG (L.pvs pv) tg v σ H Q) (tt := tt) (te := fun σ H Q => ∃ pv, tI (L.pvs pv) F noW me σ H Q) (vs := vs) (σ := σ) (H1 := H1) (D := D) (Qd := fun H => Q (.ref D) H) wk (fun i H2 => ∃ β2 h2 acc accV zs, Sim (L.hide D) β2 H2 h2 ∧ Ext β1 H1 β2 H2 ∧ stays h1 h2 ws ∧ ER (L.hide D) β2 H2 (L2.wipe σ vs) (wipeS ρ vs) ∧ VRs (L.hide D) β2 H2 us ws ∧ H2 D = some (.lst accV) ∧ VRs (L.hide D) β2 H2 accV acc ∧
          compL (fun h' => stays h1 h' ws) (cStep L.T F me tg mifs vs ρ) (items.drop i) h2 = .ok zs hf ∧ acc ++ zs = ys) ?_ ?_ ?_ ?_
        · exact ⟨β1, h1, [], [], ys, S1.hideLaid hD, Ext.laid S1 hD, stays_refl, ER.wipe (R1.hideLaid hD) vs, r1.hideLaid hD, upd_same, .nil, by rw [List.drop_zero]; exact ec, rfl⟩
        · rintro i H2 _ ⟨β2, h2, acc, accV, zs, S2, x2, st2, R2, rs2, _, _, _, _⟩
          exact ⟨_, β2, h2, S2, st2, rs2⟩
        · rintro i x H2 H3 hi ⟨β2, h2, acc, accV, zs, S2, x2, st2, R2, rs2, eD, ra, ez, ey⟩ y
          obtain ⟨v, ev, x3, S3, rv⟩ := y _ β2 h2 S2 st2 rs2
          have hd : items.drop i = v :: items.drop (i + 1) := by
            rw [List.drop_eq_getElem_cons hi]
            congr 1
            rw [List.getElem?_eq_getElem hi] at ev
            exact Option.some.inj ev
          rw [hd] at ez
          simp only [compL] at ez
          have uD : ∀ {β' : Bt}, Sim (L.hide D) β' H3 h2 → ∀ r, β' r ≠ some D := fun S' => (S'.priv D (.inr rfl)).2
          have eD3 : H3 D = some (.lst accV) := x3.rest D _ eD ((S2.priv D (.inr rfl)).2)
          -- what the turn gave
          cases es : cStep L.T F me tg mifs vs ρ v h2 with
          | ok ys1 h3 =>
            rw [es] at ez
            dsimp only at ez
            split at ez
            · rename_i st3
              cases ez2 : compL (fun h' => stays h1 h' ws) (cStep L.T F me tg mifs vs ρ) (items.drop (i + 1)) h3 with
              | ok zs' h4 =>
                rw [ez2] at ez
                cases ez
                unfold cStep at es
                cases eb : bindTg (wipeS ρ vs) tg v with
                | none => rw [eb] at es; cases es
                | some ρ3 =>
                  rw [eb] at es
                  dsimp only at es
                  refine ⟨_, β2, h2, wipeS ρ vs, ρ3, v, S3, R2.mono S2 x3, rv, eb, fun σ4 R4 w4 => ⟨?_, ?_⟩⟩
                  · have := w4 vs (by cases tg <;> exact hs)
                    rw [this, wipe_wipe fun i hi => hi]
                  · -- the end of a turn without an item
                    have skip : ∀ {β5 H5 h5}, h5 = h3 → ys1 = [] → Ext β2 H3 β5 H5 → Sim (L.hide D) β5 H5 h5 → ∃ β2 h2 acc accV zs, Sim (L.hide D) β2 H5 h2 ∧ Ext β1 H1 β2 H5 ∧ stays h1 h2 ws ∧ ER (L.hide D) β2 H5 (L2.wipe σ vs) (wipeS ρ vs) ∧ VRs (L.hide D) β2 H5 us ws ∧ H5 D = some (.lst accV) ∧ VRs (L.hide D) β2 H5 accV acc ∧
                        compL (fun h' => stays h1 h' ws) (cStep L.T F me tg mifs vs ρ) (items.drop (i + 1)) h2 = .ok zs hf ∧ acc ++ zs = ys := fun {β5 H5 h5} e5 ey1 x5 S5 => by
                      subst e5 ey1
                      have x35 := x3.trans x5
                      exact ⟨β5, h5, acc, accV, zs', S5, x2.trans x35, st3, R2.mono S2 x35, rs2.mono S2 x35, x35.rest D _ eD ((S2.priv D (.inr rfl)).2), ra.mono S2 x35, ez2, by simpa using ey⟩
                    -- .. with an item
                    have put : ∀ {β5 H5 h5}, (evE L.T F me ρ3 h5).bind (fun y h => .ok [y] h) = (.ok ys1 h3 : Out (List Val)) → Ext β2 H3 β5 H5 → Sim (L.hide D) β5 H5 h5 → (∃ pv, tI (L.pvs pv) F noW me σ4 H5 fun y H4 => ∃ accV', H4 D = some (.lst accV') ∧ accV'.length < sizeLine ∧
                        (∃ β2 h2 acc accV zs, Sim (L.hide D) β2 (upd H4 D (.lst (accV' ++ [y]))) h2 ∧ Ext β1 H1 β2 (upd H4 D (.lst (accV' ++ [y]))) ∧ stays h1 h2 ws ∧ ER (L.hide D) β2 (upd H4 D (.lst (accV' ++ [y]))) (L2.wipe σ vs) (wipeS ρ vs) ∧ VRs (L.hide D) β2 (upd H4 D (.lst (accV' ++ [y]))) us ws ∧ (upd H4 D (.lst (accV' ++ [y]))) D = some (.lst accV) ∧ VRs (L.hide D) β2 (upd H4 D (.lst (accV' ++ [y]))) accV acc ∧
                          compL (fun h' => stays h1 h' ws) (cStep L.T F me tg mifs vs ρ) (items.drop (i + 1)) h2 = .ok zs hf ∧ acc ++ zs = ys)) := fun {β5 H5 h5} e5 x5 S5 => by
                      refine ⟨_, β5, h5, ρ3, S5, R4.mono S3 x5, ?_⟩
                      cases e6 : evE L.T F me ρ3 h5 with
                      | ok z h6 =>
                        rw [e6] at e5
                        dsimp only [Out.bind] at e5
                        cases e5
                        intro u β6 H6 x6 S6 r6
                        have x36 := x3.trans (x5.trans x6)
                        have eD6 : H6 D = some (.lst accV) := x36.rest D _ eD ((S2.priv D (.inr rfl)).2)
                        have pD : (L.hide D).pv D := .inr rfl
                        have ra6 := ra.mono S2 x36
                        refine ⟨accV, eD6, ?_, β6, h3, acc ++ [z], accV ++ [u], zs', S6.touch pD eD6, ?_, st3, ?_, (rs2.mono S2 x36).touch pD eD6, upd_same, (ra6.append (.cons r6 .nil)).touch pD eD6, ez2, by simpa using ey⟩
                        · rw [← sizeL, ra6.length]
                          have := congrArg List.length ey
                          simp only [List.length_append, List.length_cons, List.length_nil] at this
                          omega
                        · have x26 := x2.trans x36
                          exact ⟨x26.keep, fun a ob q n => by rw [upd_ne (ne_of_none q hD)]; exact x26.rest a ob q n, x26.new, fun a q => by
                            by_cases zz : a = D
                            · rw [zz, upd_same]; simp
                            · rw [upd_ne zz]; exact x26.there a q⟩
                        · have R6 := R2.mono S2 x36
                          exact ⟨R6.len, fun j w q => by obtain ⟨a, b, c⟩ := R6.get j w q; exact ⟨a, b, c.touch pD eD6⟩⟩
                      | exc _ _ => rw [e6] at e5; cases e5
                      | bad => rw [e6] at e5; cases e5
                    rcases htt with ⟨rfl, rfl⟩ | ⟨c, rfl, rfl⟩
                    · rw [evEs_nil] at es
                      have q := put es .refl S3
                      unfold tYes
                      simp only [if_true]
                      exact q
                    · rw [evEs_cons] at es
                      refine ⟨_, β2, h2, ρ3, S3, R4, ?_⟩
                      cases e7 : evE L.T F c ρ3 h2 with
                      | ok b h7 =>
                        rw [e7] at es
                        dsimp only [Out.bind] at es
                        rw [evEs_nil] at es
                        dsimp only at es
                        cases et : MP.truthy h7 b with
                        | none => rw [et] at es; cases es
                        | some t =>
                          rw [et] at es
                          refine ⟨t, et, fun β5 H5 x5 S5 => ?_⟩
                          cases t with
                          | true => exact iteT (put es x5 S5)
                          | false =>
                            cases es
                            exact iteF (skip rfl rfl x5 S5)
                      | exc _ _ => rw [e7] at es; cases es
                      | bad => rw [e7] at es; cases es
              | exc _ _ => rw [ez2] at ez; cases ez
              | bad => rw [ez2] at ez; cases ez
            · cases ez
          | exc _ _ => rw [es] at ez; cases ez
          | bad => rw [es] at ez; cases ez
        · rintro H2 ⟨β2, h2, acc, accV, zs, S2, x2, st2, R2, rs2, eD, ra, ez, ey⟩
          rw [List.drop_length] at ez
          simp only [compL] at ez
          cases ez
          rw [List.append_nil] at ey
          subst ey
          unfold newL at p1
          rw [if_pos hl] at p1
          cases new with
          | false => exact p1 _ _ _ x2 (S2.show fun a z => .inl z) (.lst eD ⟨np, (S2.priv D (.inr rfl)).2⟩ (ra.show fun a z => .inl z))
          | true =>
            refine p1 _ (bnd β2 hf.n D) H2 ⟨fun r a q => ?_, x2.rest, fun r a q => ?_, x2.there⟩ (S2.born np eD ra) (.ref bnd_same)
            · have := x2.keep r a q
              rw [bnd_ne (fun z => by rw [z, S2.fresh] at this; cases this)]
              exact this
            · by_cases z : r = hf.n
              · subst z; rw [bnd_same] at q; cases q; exact .inr hD
              · rw [bnd_ne z] at q; exact x2.new r a q
      | exc _ _ => rw [ec] at p; exact p.elim
      | bad => rw [ec] at p; exact p.elim
  | exc x h1 => rw [ee] at p; exact p
  | bad => rw [ee] at p; exact p.elim
/-- the contexts of a comprehension's block -/
def Blk (X : Cx) (scope : Scope) (Y : Cx) : Prop := ∃ (s : Shared) (H : Hp) (C : Addr) (cl : List (PySem.Str × Addr)) (fp : List Addr), Y = X.blk s H scope (compEnvC scope cl C X.env) fp
inductive IfsOk (L : Lk) (F : Fns) (X : Cx) (scope : Scope) : List Expr → List E → Prop where
  | nil : IfsOk L F X scope [] []
  | one {c : Expr} {m : E} : (∀ pv Y, Blk X scope Y → PT Y c (tT (L.pvs pv) F noW m)) → IfsOk L F X scope [c] [m]
theorem comp_parts {elt ptg : Expr} {ifs : List Expr} {scope : Scope} {me : E} {tg : Tg} {mifs : List E} (hg : ∀ pv Y, Blk X scope Y → PG Y ptg (tG (L.pvs pv) tg)) (ht : IfsOk L F X scope ifs mifs) (he : ∀ pv Y, Blk X scope Y → PE Y elt (tI (L.pvs pv) F noW me)) :
    (∀ Y, Blk X scope Y → PG Y ptg (fun v σ H Q => ∃ pv, tG (L.pvs pv) tg v σ H Q)) ∧ (∀ Y, Blk X scope Y → PE Y elt (fun σ H Q => ∃ pv, tI (L.pvs pv) F noW me σ H Q)) ∧
      ∃ tt, ((mifs = [] ∧ tt = tYes) ∨ ∃ c, mifs = [c] ∧ tt = fun σ H Q => ∃ pv, tT (L.pvs pv) F noW c σ H Q) ∧ ∀ Y, Blk X scope Y → PTs Y ifs tt := by
  refine ⟨fun Y hY => ⟨fun pins s σ H v u Q I r ⟨pv, q⟩ => (hg pv Y hY).run pins s σ H v u Q I r q⟩, fun Y hY => ⟨fun pins s σ H Q I ⟨pv, q⟩ => (he pv Y hY).run pins s σ H Q I q⟩, ?_⟩
  cases ht with
  | nil => exact ⟨_, .inl ⟨rfl, rfl⟩, fun Y _ => pts_nil⟩
  | one h => exact ⟨_, .inr ⟨_, rfl, rfl⟩, fun Y hY => pts_one ⟨fun pins s σ H Q I ⟨pv, q⟩ => (h pv Y hY).run pins s σ H Q I q⟩⟩
theorem s_comp {elt ptg iter : Expr} {ifs : List Expr} {scope : Scope} {own : List (PySem.Str × Nat)} {pos : Pos} {new : Bool} {me : E} {tg : Tg} {w : Nat} {it mifs : List E} (hc : X.calm = true) (nd : X.N.Nodup) (hw : w ≠ 1) (hn : notSet iter = true) (hs : ∀ i ∈ tgSlots tg, i ∈ own.map (·.2))
    (hi : PI X ptg iter (tWk L F W w it)) (ok : BlkOk X.N X.env.scope scope own) (hg : ∀ pv Y, Blk X scope Y → PG Y ptg (tG (L.pvs pv) tg)) (ht : IfsOk L F X scope ifs mifs) (he : ∀ pv Y, Blk X scope Y → PE Y elt (tI (L.pvs pv) F noW me)) :
    PE X (.ListComp elt [⟨ptg, iter, ifs, 0⟩] scope pos) (tI L F W (.comp new me tg w it mifs (own.map (·.2)))) := by
  obtain ⟨h1, h2, tt, h3, h4⟩ := comp_parts hg ht he
  refine pwE fun pins s σ H Q I ⟨β, h, ρ, S, R, p⟩ => ⟨_, pe_lc hc nd hi ok (fun s H C cl fp => h1 _ ⟨s, H, C, cl, fp, rfl⟩) (fun s H C cl fp => h4 _ ⟨s, H, C, cl, fp, rfl⟩) (fun s H C cl fp => h2 _ ⟨s, H, C, cl, fp, rfl⟩) (fun x => by cases iter <;> first | rfl | (simp [notSet] at hn)), ?_⟩
  exact s_comp_of (ptg := ptg) (elt := elt) (iter := iter) (ifs := ifs) (scope := scope) (pos := pos) rfl rfl rfl h3 hw hs S R p
/-- name = [..], the name's slot used at once -/
theorem s_setLc {i : Nat} {y : PySem.Str} {elt ptg iter : Expr} {ifs : List Expr} {scope : Scope} {own : List (PySem.Str × Nat)} {pos py spos : Pos} {new : Bool} {me : E} {tg : Tg} {w : Nat} {it mifs : List E} (hc : X.calm = true) (nd : X.N.Nodup) (hw : w ≠ 1) (hn : notSet iter = true) (hs : ∀ i ∈ tgSlots tg, i ∈ own.map (·.2))
    (hy : X.N[i]? = some y) (hyl : X.env.scope.names.lookup y = some .local) (hsw : swapsWith (.ListComp elt [⟨ptg, iter, ifs, 0⟩] scope pos) (some (.Name y py)) spos.line X.env = pure true)
    (hi : PI X ptg iter (tWk L F W w it)) (ok : BlkOk X.N X.env.scope scope own) (hg : ∀ pv Y, Blk X scope Y → PG Y ptg (tG (L.pvs pv) tg)) (ht : IfsOk L F X scope ifs mifs) (he : ∀ pv Y, Blk X scope Y → PE Y elt (tI (L.pvs pv) F noW me)) :
    PS X (.Assign [.Name y py] (.ListComp elt [⟨ptg, iter, ifs, 0⟩] scope pos) spos) (tS L F W (.asg (.name i) (.comp new me tg w it mifs (own.map (·.2))))) := by
  obtain ⟨h1, h2, tt, h3, h4⟩ := comp_parts hg ht he
  refine pwS fun pins s σ H D I ⟨β, h, ρ, S, R, p⟩ => ⟨_, ps_setLc hc nd hy hyl hsw hi ok (fun s H C cl fp => h1 _ ⟨s, H, C, cl, fp, rfl⟩) (fun s H C cl fp => h4 _ ⟨s, H, C, cl, fp, rfl⟩) (fun s H C cl fp => h2 _ ⟨s, H, C, cl, fp, rfl⟩) (fun x => by cases iter <;> first | rfl | (simp [notSet] at hn)), ?_⟩
  unfold exS at p
  refine s_comp_of (Q := fun x H1 => gName i x σ H1 D.nx) (W := W) (ptg := ptg) (elt := elt) (iter := iter) (ifs := ifs) (scope := scope) (pos := pos) (new := new) rfl rfl rfl h3 hw hs S R (Sst.first S R p fun v h1 u β1 H1 _ x1 S1 r1 p1 => ?_)
  simp only [bindTg, setSlots] at p1
  split at p1
  · rename_i ρ' e'
    split at e'
    · cases e'
      exact p1 _ _ _ .refl S1 ((R.mono S x1).set r1 i)
    · cases e'
  · exact p1.elim
end
end MP

/-! Mp1m: dict displays, written dicts, zip -/
namespace MP
open PySem PySem.Spec PyProof.Rows L2
/-! ### a dict that was laid ahead is filled -/
section
variable {L : Lk} {β : Bt} {H : Hp} {p : Addr} {n : Nat} {ps0 ps : List (Key × V)}
theorem kp_sqt {vs : List V} {a : Addr} (hp : H p = some (.dK ps0)) (e : SqT L.K H a vs) : SqT L.K (upd H p (.dK ps)) a vs := by
  rcases e with (e | ⟨o, e⟩) | e
  · exact .inl (.inl (by rw [upd_ne (fun z => by subst z; rw [hp] at e; cases e)]; exact e))
  · exact .inl (.inr ⟨o, by rw [upd_ne (fun z => by subst z; rw [hp] at e; cases e)]; exact e⟩)
  · exact .inr e
theorem kp_un {a : Addr} (ne : a ≠ p) (u : Un L β a) : Un L (bnd β n p) a := ⟨u.1, fun r e => by
  by_cases z : r = n
  · subst z
    rw [bnd_same] at e
    cases e
    exact ne rfl
  · rw [bnd_ne z] at e
    exact u.2 r e⟩
mutual
theorem VR.kp (hp : H p = some (.dK ps0)) (hn : β n = none) : ∀ {v : V} {a : Val}, VR L β H v a → VR L (bnd β n p) (upd H p (.dK ps)) v a
  | _, _, .non => .non
  | _, _, .bl b => .bl b
  | _, _, .int i => .int i
  | _, _, .str s => .str s
  | _, _, .tup e r => .tup (kp_sqt hp e) (VRs.kp hp hn r)
  | _, _, .lst (a := a) e u r => have ne : a ≠ p := fun z => by subst z; rw [hp] at e; cases e
    .lst (by rw [upd_ne ne]; exact e) (kp_un ne u) (VRs.kp hp hn r)
  | _, _, .arr (a := a) e r => .arr (by
      rcases e with ⟨e, u⟩ | ⟨o, e⟩ | e
      · have ne : a ≠ p := fun z => by subst z; rw [hp] at e; cases e
        exact .inl ⟨by rw [upd_ne ne]; exact e, kp_un ne u⟩
      · have ne : a ≠ p := fun z => by subst z; rw [hp] at e; cases e
        exact .inr (.inl ⟨o, by rw [upd_ne ne]; exact e⟩)
      · exact .inr (.inr e)) (VRs.kp hp hn r)
  | _, _, .ref e => .ref (by rw [bnd_ne (fun z => by subst z; rw [hn] at e; cases e)]; exact e)
  | _, _, .fn k => .fn k
theorem VRs.kp (hp : H p = some (.dK ps0)) (hn : β n = none) : ∀ {vs : List V} {as : List Val}, VRs L β H vs as → VRs L (bnd β n p) (upd H p (.dK ps)) vs as
  | _, _, .nil => .nil
  | _, _, .cons r t => .cons (VR.kp hp hn r) (VRs.kp hp hn t)
end
theorem KR.kp (hp : H p = some (.dK ps0)) (hn : β n = none) : ∀ {qs : List (Key × V)} {rs : List (Val × Val)}, KR L β H qs rs → KR L (bnd β n p) (upd H p (.dK ps)) qs rs
  | _, _, .nil => .nil
  | _, _, .cons e r t => .cons e (r.kp hp hn) (KR.kp hp hn t)
theorem FR.kp (hp : H p = some (.dK ps0)) (hn : β n = none) : ∀ {qs : List (PySem.Str × V)} {rs : List (Nat × Val)}, FR L β H qs rs → FR L (bnd β n p) (upd H p (.dK ps)) qs rs
  | _, _, .nil => .nil
  | _, _, .cons r t => .cons (r.kp hp hn) (FR.kp hp hn t)
theorem CR.kp (hp : H p = some (.dK ps0)) (hn : β n = none) {a : Addr} {c : Cell} (ne : a ≠ p) (r : CR L β H a c) : CR L (bnd β n p) (upd H p (.dK ps)) a c := by
  have e : upd H p (.dK ps) a = H a := upd_ne ne
  cases c with
  | lst xs => obtain ⟨vs, q, t⟩ := r; exact ⟨vs, e.trans q, t.kp hp hn⟩
  | dic kvs b =>
    cases b with
    | false => obtain ⟨ps, q, t⟩ := r; exact ⟨ps, e.trans q, t.kp hp hn⟩
    | true => obtain ⟨ps, o, q, t⟩ := r; exact ⟨ps, o, e.trans q, t.kp hp hn⟩
  | ins c fs => obtain ⟨i, f, dx, ps, q, t⟩ := r; exact ⟨i, f, dx, ps, e.trans q, t.kp hp hn⟩
theorem Sim.fill {h : Heap} (S : Sim L β H h) (hp : H p = some (.dK ps0)) (hu : Un L β p) {kvs : List (Val × Val)} (x : KR L β H ps kvs) : Sim L (bnd β h.n p) (upd H p (.dK ps)) (h.push (.dic kvs false)) where
  fwd := fun r d q => by
    by_cases z : r = h.n
    · subst z; exact ⟨p, bnd_same⟩
    · have q' : h.c r = some d := by
        have : (if r = h.n then some (Cell.dic kvs false) else h.c r) = some d := q
        rwa [if_neg z] at this
      obtain ⟨a, y⟩ := S.fwd r d q'
      exact ⟨a, by rw [bnd_ne z]; exact y⟩
  bwd := fun r a q => by
    by_cases z : r = h.n
    · subst z
      rw [bnd_same] at q; cases q
      exact ⟨Nat.lt_succ_self _, .dic kvs false, if_pos rfl, ps, upd_same, x.kp hp S.fresh⟩
    · rw [bnd_ne z] at q
      obtain ⟨l, d, hd, y⟩ := S.bwd r a q
      exact ⟨Nat.lt_succ_of_lt l, d, by show (if r = h.n then some (Cell.dic kvs false) else h.c r) = some d; rw [if_neg z]; exact hd,
        y.kp hp S.fresh fun w => hu.2 r (by rw [q, w])⟩
  inj := fun r q a h1 h2 => by
    by_cases z : r = h.n
    · by_cases w : q = h.n
      · rw [z, w]
      · subst z
        rw [bnd_same] at h1; cases h1
        rw [bnd_ne w] at h2
        exact absurd h2 (hu.2 q)
    · rw [bnd_ne z] at h1
      by_cases w : q = h.n
      · subst w
        rw [bnd_same] at h2; cases h2
        exact absurd h1 (hu.2 r)
      · rw [bnd_ne w] at h2
        exact S.inj r q a h1 h2
  priv := fun a q => by
    obtain ⟨q1, q2⟩ := S.priv a q
    refine ⟨?_, fun r w => ?_⟩
    · by_cases z : a = p
      · subst z; rw [upd_same]; simp
      · rw [upd_ne z]; exact q1
    · by_cases z : r = h.n
      · subst z
        rw [bnd_same] at w
        cases w
        exact hu.1 q
      · rw [bnd_ne z] at w
        exact q2 r w
end
section
variable {L : Lk} {β : Bt} {H : Hp}
def flatV : List (V × V) → List V
  | [] => []
  | p :: r => p.1 :: p.2 :: flatV r
theorem pr_of : ∀ {us : List V} {ws : List Val} {kvs : List (Val × Val)}, VRs L β H us ws → pairsV ws = some kvs → ∃ qs : List (Key × V), us = flatV (qs.map (fun kv => (kV kv.1, kv.2))) ∧ KR L β H qs kvs
  | _, _, _, .nil, e => by cases e; exact ⟨[], rfl, .nil⟩
  | _, _, _, .cons _ .nil, e => by cases e
  | _, _, _, .cons r1 (.cons (v := v) r2 t), e => by
    unfold pairsV at e
    split at e
    · rename_i kvs ek
      split at e
      · rename_i hk
        cases e
        obtain ⟨qs, rfl, kr⟩ := pr_of t ek
        cases r1 with
        | int i => exact ⟨(.inl i, v) :: qs, rfl, .cons (k := .inl i) rfl r2 kr⟩
        | str s => exact ⟨(.inr ⟨s.toArray⟩, v) :: qs, rfl, .cons (k := .inr ⟨s.toArray⟩) rfl r2 kr⟩
        | _ => cases hk
      · cases e
    · cases e
theorem kr_puts : ∀ {qs : List (Key × V)} {kvs : List (Val × Val)} {as : List (Key × V)} {bs : List (Val × Val)}, KR L β H as bs → KR L β H qs kvs → KR L β H (mergeK as qs) (dPuts bs kvs)
  | _, _, _, _, r0, .nil => r0
  | _, _, _, _, r0, .cons e r t => by
    unfold dPuts
    show KR L β H (mergeK (putK _ _ _) _) _
    exact kr_puts (r0.put e r) t
end
section
variable {X : Cx} {L : Lk} {F : Fns} {W : WX} {lv : Nat}
/-- a display's pairs are evaluated -/
def PDs (X : Cx) (L : Lk) (F : Fns) (W : WX) (ks : List (Option Expr)) (vs : List Expr) (es : List E) : Prop := ∃ trs : List (TE × TE), (∀ pos, PPs X pos ks vs trs) ∧ ∀ σ H Q, (∃ β h ρ, Sim L β H h ∧ ER L β H σ ρ ∧ Psts L β H (evEs L.T F es ρ h) (fun us H2 => ∃ ps, us = flatV ps ∧ Q ps H2) fun c d H' => W c d σ H') → tPairs trs σ H Q
theorem pds_nil : PDs X L F W [] [] [] := ⟨[], fun pos => pps_nil, fun σ H Q ⟨β, h, ρ, S, R, p⟩ => by
  obtain ⟨ps, e, q⟩ := p [] _ _ .refl S .nil
  cases ps with
  | nil => exact q
  | cons p r => cases e⟩
theorem pds_bad {ks : List (Option Expr)} {vs : List Expr} : PDs X L F W ks vs [.stop] := ⟨[((fun _ _ _ => False), fun _ _ _ => False)], fun pos => ⟨fun pins s σ H Q I h => h.elim⟩, fun σ H Q ⟨β, h, ρ, S, R, p⟩ => by
  rw [evEs_cons] at p; unfold evE at p; exact p.elim⟩
theorem pds_cons {k v : Expr} {ks : List (Option Expr)} {vs : List Expr} {mk mv : E} {es : List E} (hk : PE X k (tI L F W mk)) (hv : PE X v (tI L F W mv)) (hr : PDs X L F W ks vs es) : PDs X L F W (some k :: ks) (v :: vs) (mk :: mv :: es) := by
  obtain ⟨trs, p, q⟩ := hr
  refine ⟨(tI L F W mk, tI L F W mv) :: trs, fun pos => pps_cons hk hv (p pos), fun σ H Q ⟨β, h, ρ, S, R, a⟩ => ?_⟩
  rw [evEs_cons] at a
  refine tI_of S R (Psts.first a fun v1 h1 u1 β1 H1 _ x1 S1 r1 a1 => ?_)
  cases e2 : evE L.T F mv ρ h1 with
  | ok v2 h2 =>
    refine tI_of S1 (R.mono S x1) ?_
    rw [e2]
    intro u2 β2 H2 x2 S2 r2
    refine q σ H2 (fun ps H' => Q ((u1, u2) :: ps) H') ⟨β2, h2, ρ, S2, (R.mono S x1).mono S1 x2, ?_⟩
    have a2 : Psts L β1 H1 (((evEs L.T F es ρ h2).bind fun vs h => .ok (v2 :: vs) h).bind fun vs h => .ok (v1 :: vs) h) (fun us H2 => ∃ ps, us = flatV ps ∧ Q ps H2) fun c d H' => W c d σ H' := by
      rw [evEs_cons, e2] at a1
      exact a1
    have a3 := Psts.mono x2 a2
    cases e3 : evEs L.T F es ρ h2 with
    | ok vs h3 =>
      rw [e3] at a3
      intro us β3 H3 x3 S3 r3
      obtain ⟨ps, e, qq⟩ := a3 _ β3 H3 x3 S3 (.cons ((r1.mono S1 x2).mono S2 x3) (.cons (r2.mono S2 x3) r3))
      cases ps with
      | nil => cases e
      | cons p r =>
        simp only [flatV, List.cons.injEq] at e
        obtain ⟨rfl, rfl, e⟩ := e
        exact ⟨r, e, qq⟩
    | exc x h3 => rw [e3] at a3; exact a3
    | bad => rw [e3] at a3; exact a3.elim
  | exc x h2 =>
    rw [evEs_cons, e2] at a1
    refine tI_of S1 (R.mono S x1) ?_
    rw [e2]
    exact a1
  | bad =>
    rw [evEs_cons, e2] at a1
    exact a1.elim
theorem s_dicI {keys : List (Option Expr)} {values : List Expr} {pos : Pos} {es : List E} (hall : keys.all (·.isSome) = true) (hl : keys.length = values.length) (h0 : keys ≠ []) (h15 : keys.length ≤ 15) (hd : PDs X L F W keys values es) :
    PE X (.Dict keys values pos) (tI L F W (.dicI es)) := by
  obtain ⟨trs, pp, q⟩ := hd
  refine pwE fun pins s σ H Q I a => ⟨_, pe_disp (pp pos) hall hl h0 h15, fun p hp => ?_⟩
  obtain ⟨β, h, ρ, S, R, a⟩ := a
  unfold evE at a
  have S1 := S.laid (o := .dK []) hp
  have x1 := Ext.laid S (o := .dK []) hp
  refine q σ _ _ ⟨β, h, ρ, S1, R.mono S x1, ?_⟩
  · cases e : evEs L.T F es ρ h with
    | ok vs h2 =>
      rw [e] at a
      intro us β2 H2 x2 S2 r2
      have hu : ∀ r, β r ≠ some p := S.free hp
      have h2p : H2 p = some (.dK []) := x2.rest p _ upd_same hu
      have hu2 : Un L β2 p := ⟨fun z => (S.priv p z).1 hp, x2.out (by rw [upd_same]; simp) hu⟩
      dsimp only [Out.bind] at a
      cases ek : pairsV vs with
      | none => rw [ek] at a; exact a.elim
      | some kvs =>
        rw [ek] at a
        obtain ⟨qs, ep, kr⟩ := pr_of r2 ek
        dsimp only at a
        split at a
        · rename_i h15'
          refine ⟨_, ep, h2p, qs, rfl, by rw [kr.length]; exact h15', ?_⟩
          refine a (.ref p) (bnd β2 h2.n p) _ ⟨fun r b w => ?_, fun b o w n => ?_, fun r b w => ?_, fun b w => ?_⟩ (S2.fill h2p hu2 (kr_puts .nil kr)) (.ref bnd_same)
          · have w2 := x2.keep r b w
            rw [bnd_ne (fun z => by subst z; rw [S2.fresh] at w2; cases w2)]
            exact w2
          · have ne : b ≠ p := fun z => by subst z; rw [hp] at w; cases w
            rw [upd_ne ne]
            exact x2.rest b o (by rw [upd_ne ne]; exact w) n
          · by_cases z : r = h2.n
            · subst z
              rw [bnd_same] at w
              cases w
              exact .inr hp
            · rw [bnd_ne z] at w
              rcases x2.new r b w with y | y
              · exact .inl y
              · by_cases ne : b = p
                · subst ne; exact .inr hp
                · rw [upd_ne ne] at y; exact .inr y
          · by_cases ne : b = p
            · subst ne; exact absurd hp w
            · rw [upd_ne ne]
              exact x2.there b (by rw [upd_ne ne]; exact w)
        · exact a.elim
    | exc x h2 =>
      rw [e] at a
      exact fun c d β2 H2 x2 S2 r => a c d β2 H2 (x1.trans x2) S2 r
    | bad => rw [e] at a; exact a.elim
end
end MP

/-! Mp1n: written dicts, zip -/
namespace MP
open PySem PySem.Spec PyProof.Rows L2
/-- a written dict of texts, its values tuples of defs -/
def TabAt (K : PySem.W.Frag) (w : World) (d : Addr) (fa : Nat → Addr) (rows : List (List Nat × List Nat)) : Prop := ∃ es n, KDict K w d es n ∧ ∀ s, match rows.lookup s with
  | some ks => ∃ p, PySem.W.nsIn K d ⟨s.toArray⟩ = some (some (.ref p)) ∧ ∀ H, SqT K H p (ks.map fun k => V.ref (fa k))
  | none => PySem.W.nsIn K d ⟨s.toArray⟩ = some none
section
variable {X : Cx} {L : Lk} {F : Fns} {W : WX} {lv : Nat}
theorem fns_vr {β : Bt} {H : Hp} : ∀ ks : List Nat, VRs L β H (ks.map fun k => V.ref (L.fa k)) (ks.map .fn)
  | [] => .nil
  | k :: ks => .cons (.fn k) (fns_vr ks)
theorem s_gin {a : Expr} {x : PySem.Str} {d : Addr} {ma : E} {rows : List (List Nat × List Nat)} {p2 pos : Pos} (hK : X.K = L.K) (hg : Gl X x) (hm : X.mg x = some (.ref d)) (hdb : (x == ("__debug__" : PySem.Str)) = false) (ht : TabAt X.K X.w d L.fa rows) (ha : PE X a (tI L F W ma)) :
    PE X (.Compare a [.In] [.Name x p2] pos) (tI L F W (.gin rows ma)) := by
  obtain ⟨es, n, D, t⟩ := ht
  refine pwE fun pins s σ H Q I q => ⟨_, pe_cmpR (op_in_kd D) ha (pe_glob (v := .ref d) hg hm rfl hdb) rfl, ?_⟩
  obtain ⟨β, h, ρ, S, R, p⟩ := q
  unfold evE at p
  refine tI_of S R (Pst.first p fun v h1 u β1 H1 _ x1 S1 r1 p1 => ?_)
  cases r1 with
  | str z =>
    have tz := t z
    dsimp only at p1
    cases e : rows.lookup z with
    | some ks =>
      rw [e] at tz p1
      obtain ⟨pp, e1, _⟩ := tz
      exact ⟨_, _, rfl, rfl, e1, p1 _ _ _ .refl S1 (.bl true)⟩
    | none =>
      rw [e] at tz p1
      exact ⟨_, _, rfl, rfl, tz, p1 _ _ _ .refl S1 (.bl false)⟩
  | _ => exact p1.elim
theorem s_gget {b : Expr} {x : PySem.Str} {d : Addr} {mb : E} {rows : List (List Nat × List Nat)} {p2 pos : Pos} (hK : X.K = L.K) (hg : Gl X x) (hm : X.mg x = some (.ref d)) (hdb : (x == ("__debug__" : PySem.Str)) = false) (ht : TabAt X.K X.w d L.fa rows) (hp : plainIx b = true) (hb : PE X b (tI L F W mb)) :
    PE X (.Subscript (.Name x p2) b pos) (tI L F W (.gget rows mb)) := by
  obtain ⟨es, n, D, t⟩ := ht
  refine pwE fun pins s σ H Q I q => ⟨_, pe_ix ix_kdict (pe_glob (v := .ref d) hg hm rfl hdb) hb (plainIx_of hp), ?_⟩
  obtain ⟨β, h, ρ, S, R, p⟩ := q
  unfold evE at p
  show tI L F W mb σ H _
  refine tI_of S R (Pst.first p fun v h1 u β1 H1 _ x1 S1 r1 p1 => ?_)
  cases r1 with
  | str z =>
    have tz := t z
    dsimp only at p1
    cases e : rows.lookup z with
    | some ks =>
      rw [e] at tz p1
      obtain ⟨pp, e1, e2⟩ := tz
      exact ⟨_, _, V.ref pp, rfl, rfl, ⟨es, n, _, D.at_, D.lit, e1, rfl⟩, p1 _ _ _ .refl S1 (.tup (hK ▸ e2 H1) (fns_vr ks))⟩
    | none =>
      rw [e] at p1
      exact p1.elim
  | _ => exact p1.elim
/-! ### zip of two tuples -/
theorem wk_zipT {a b : Addr} {h0 : Heap} {xs ys : List Val} : WalkOk L (RZ.ItzT L.K a b) h0 [.tup xs, .tup ys] (zipV xs ys) [.ref a, .ref b] := by
  have at_ : ∀ pv β H, VRs (L.pvs pv) β H [.ref a, .ref b] [.tup xs, .tup ys] → ∃ vs us, SqT L.K H a vs ∧ SqT L.K H b us ∧ VRs (L.pvs pv) β H vs xs ∧ VRs (L.pvs pv) β H us ys := fun pv β H rs => by
    cases rs with
    | cons r t =>
      cases t with
      | cons r2 _ =>
        cases r with
        | tup h1 q1 => cases r2 with | tup h2 q2 => exact ⟨_, _, h1, h2, q1, q2⟩
  refine ⟨fun i H hi ⟨pv, β, h, S, st, rs⟩ => ?_, fun H ⟨pv, β, h, S, st, rs⟩ => ?_, fun i H x H' hi _ y pv β h S st rs => ?_⟩
  · obtain ⟨vs, us, h1, h2, q1, q2⟩ := at_ pv β H rs
    rw [zip_len] at hi
    have l1 := q1.length
    have l2 := q2.length
    exact ⟨vs, us, vs[i]'(by omega), us[i]'(by omega), h1, h2, List.getElem?_eq_getElem _, List.getElem?_eq_getElem _⟩
  · obtain ⟨vs, us, h1, h2, q1, q2⟩ := at_ pv β H rs
    have l1 := q1.length
    have l2 := q2.length
    refine ⟨vs, us, h1, h2, ?_⟩
    rw [zip_len]
    omega
  · obtain ⟨vs, us, h1, h2, q1, q2⟩ := at_ pv β H rs
    rw [zip_len] at hi
    have l1 := q1.length
    have l2 := q2.length
    obtain ⟨T, x1, y1, rfl, hT, rfl, f1, f2⟩ := y
    obtain ⟨v1, e1, r1⟩ := q1.get (i := i) (x := xs[i]'(by omega)) (List.getElem?_eq_getElem _)
    obtain ⟨v2, e2, r2⟩ := q2.get (i := i) (x := ys[i]'(by omega)) (List.getElem?_eq_getElem _)
    have g1 := f1 _ h1
    have g2 := f2 _ h2
    rw [e1] at g1
    rw [e2] at g2
    cases g1
    cases g2
    obtain ⟨w1, w2, w3⟩ := pair_laid (L := L.pvs pv) S hT r1 r2
    exact ⟨_, zip_get xs ys i _ _ (List.getElem?_eq_getElem _) (List.getElem?_eq_getElem _), w1, w2, w3⟩
theorem s_w5 {elts : List Expr} {kk : Nat} {a b : Expr} {ms : List E} {p pos tpos : Pos} (hK : X.K = L.K) (hs : notStar a = true) (hs2 : notStar b = true) (hg : Gl X "zip") (hm : X.mg "zip" = none) (ha : PA X [a, b] (tIs L F W ms)) : PI X (.Tuple elts kk tpos) (.Call (.Name "zip" p) [a, b] [] pos) (tWk L F W 5 ms) := by
  refine pwPI fun pins s σ H R I ⟨β, h, ρ, S, Re, q⟩ => ⟨_, RZ.pi_zipA hg hm ha (starEach_of hs) (by rw [starEach_of hs2]; rfl), tIs_of S Re ?_⟩
  cases ee : evEs L.T F ms ρ h with
  | ok ws h1 =>
    rw [ee] at q
    obtain ⟨items, ei, k⟩ := q
    intro us β1 H1 x1 S1 r1
    unfold walkV at ei
    split at ei
    all_goals first | contradiction | skip
    rename_i xs ys _
    cases ei
    cases r1 with
    | cons r t =>
      cases t with
      | cons r2 t =>
        cases t
        cases r with
        | tup h1' q1 =>
          cases r2 with
          | tup h2' q2 =>
            refine ⟨_, _, _, _, rfl, .inr ⟨hK ▸ h1', hK ▸ h2', ?_⟩⟩
            rw [hK]
            exact k _ β1 H1 _ x1 S1 (.cons (.tup h1' q1) (.cons (.tup h2' q2) .nil)) wk_zipT
  | exc x h1 => rw [ee] at q; exact q
  | bad => rw [ee] at q; exact q.elim
end
end MP

/-! Mp1k: what a def laid is let go; fields, places, exceptions -/
namespace MP
open PySem PySem.Spec PyProof.Rows L2

/-! ### what was laid is let go -/
mutual
theorem VR.back {L : Lk} {β β' : Bt} {H H' : Hp} (keep : ∀ r a, β r = some a → β' r = some a) : ∀ {v0 v : V} {x : Val}, VR L β H v0 x → VR L β' H' v x → VR L β H' v x
  | _, _, _, .non, .non => .non
  | _, _, _, .bl b, .bl _ => .bl b
  | _, _, _, .int i, .int _ => .int i
  | _, _, _, .str s, .str _ => .str s
  | _, _, _, .tup _ r, .tup e r' => .tup e (VRs.back keep r r')
  | _, _, _, .lst _ _ r, .lst e n r' => .lst e ⟨n.1, fun q z => n.2 q (keep _ _ z)⟩ (VRs.back keep r r')
  | _, _, _, .arr _ r, .arr e r' => .arr (by
      rcases e with ⟨e, n⟩ | e | e
      · exact .inl ⟨e, n.1, fun q z => n.2 q (keep _ _ z)⟩
      · exact .inr (.inl e)
      · exact .inr (.inr e)) (VRs.back keep r r')
  | _, _, _, .ref e, .ref e' => .ref (by rw [keep _ _ e] at e'; cases e'; exact e)
  | _, _, _, .fn k, .fn _ => .fn k
theorem VRs.back {L : Lk} {β β' : Bt} {H H' : Hp} (keep : ∀ r a, β r = some a → β' r = some a) : ∀ {vs0 vs : List V} {xs : List Val}, VRs L β H vs0 xs → VRs L β' H' vs xs → VRs L β H' vs xs
  | _, _, _, .nil, .nil => .nil
  | _, _, _, .cons r t, .cons r' t' => .cons (VR.back keep r r') (VRs.back keep t t')
end
section
variable {L : Lk} {β β' : Bt} {H H' : Hp} {h h' : Heap}
theorem KR.back (keep : ∀ r a, β r = some a → β' r = some a) : ∀ {ps0 ps : List (Key × V)} {qs : List (Val × Val)}, KR L β H ps0 qs → KR L β' H' ps qs → KR L β H' ps qs
  | _, _, _, .nil, .nil => .nil
  | _, _, _, .cons _ r t, .cons e r' t' => .cons e (r.back keep r') (KR.back keep t t')
theorem FR.back (keep : ∀ r a, β r = some a → β' r = some a) : ∀ {ps0 ps : List (PySem.Str × V)} {qs : List (Nat × Val)}, FR L β H ps0 qs → FR L β' H' ps qs → FR L β H' ps qs
  | _, _, _, .nil, .nil => .nil
  | _, _, _, .cons r t, .cons r' t' => .cons (r.back keep r') (FR.back keep t t')
theorem CR.back (keep : ∀ r a, β r = some a → β' r = some a) {a : Addr} {c : Cell} (x : CR L β H a c) (y : CR L β' H' a c) : CR L β H' a c := by
  cases c with
  | lst xs => obtain ⟨_, _, r⟩ := x; obtain ⟨vs, e, r'⟩ := y; exact ⟨vs, e, r.back keep r'⟩
  | dic kvs b =>
    cases b with
    | false => obtain ⟨_, _, r⟩ := x; obtain ⟨vs, e, r'⟩ := y; exact ⟨vs, e, r.back keep r'⟩
    | true => obtain ⟨_, _, _, r⟩ := x; obtain ⟨vs, o, e, r'⟩ := y; exact ⟨vs, o, e, r.back keep r'⟩
  | ins c fs => obtain ⟨_, _, _, _, _, r⟩ := x; obtain ⟨w1, w2, dx, vs, e, r'⟩ := y; exact ⟨w1, w2, dx, vs, e, r.back keep r'⟩
theorem same_ext (x : Ext β H β' H') : Ext β H β H' := ⟨fun _ _ e => e, x.rest, fun _ _ e => .inl e, x.there⟩
theorem same_sim (S : Sim L β H h) (x : Ext β H β' H') (S' : Sim L β' H' h') (q : same h h') : Sim L β H' h where
  fwd := S.fwd
  bwd := fun r a e => by
    obtain ⟨l, c, hc, cr⟩ := S.bwd r a e
    obtain ⟨_, c', hc', cr'⟩ := S'.bwd r a (x.keep r a e)
    rw [q r l, hc] at hc'
    cases hc'
    exact ⟨l, c, hc, cr.back x.keep cr'⟩
  inj := S.inj
  priv := fun a p => ⟨x.there a (S.priv a p).1, (S.priv a p).2⟩
theorem frz_all (n : Nat) (ih : ∀ v a w, frzV h h' n a = some w → VR L β' H' v a → VR L β H' v w) : ∀ (as : List Val) (vs : List V) (ws : List Val), mapO (frzV h h' n) as = some ws → VRs L β' H' vs as → VRs L β H' vs ws
  | [], _, ws, e, .nil => by simp only [mapO] at e; cases e; exact .nil
  | a :: as, _, ws, e, .cons r t => by
    simp only [mapO] at e
    split at e
    · rename_i b bs e1 e2
      cases e
      exact .cons (ih _ _ _ e1 r) (frz_all n ih as _ _ e2 t)
    · cases e
theorem frz_ok (S : Sim L β H h) (x : Ext β H β' H') (S' : Sim L β' H' h') : ∀ (n : Nat) (v : V) (a w : Val), frzV h h' n a = some w → VR L β' H' v a → VR L β H' v w
  | 0, _, _, _, e, _ => by simp [frzV] at e
  | n + 1, v, a, w, e, r => by
    have lists := frz_all (L := L) (β := β) (β' := β') (H' := H') n (frz_ok S x S' n)
    cases r with
    | non => simp only [frzV] at e; cases e; exact .non
    | bl b => simp only [frzV] at e; cases e; exact .bl b
    | int i => simp only [frzV] at e; cases e; exact .int i
    | str s => simp only [frzV] at e; cases e; exact .str s
    | tup hs rs =>
      simp only [frzV] at e
      obtain ⟨ws, e1, rfl⟩ := Option.map_eq_some_iff.mp e
      exact .tup hs (lists _ _ _ e1 rs)
    | lst hs hn rs =>
      simp only [frzV] at e
      obtain ⟨ws, e1, rfl⟩ := Option.map_eq_some_iff.mp e
      exact .lst hs ⟨hn.1, fun q z => hn.2 q (x.keep _ _ z)⟩ (lists _ _ _ e1 rs)
    | arr hs rs =>
      simp only [frzV] at e
      obtain ⟨ws, e1, rfl⟩ := Option.map_eq_some_iff.mp e
      refine .arr ?_ (lists _ _ _ e1 rs)
      rcases hs with ⟨hs, hn⟩ | hs | hs
      · exact .inl ⟨hs, hn.1, fun q z => hn.2 q (x.keep _ _ z)⟩
      · exact .inr (.inl hs)
      · exact .inr (.inr hs)
    | @ref a r hb =>
      simp only [frzV] at e
      split at e
      · rename_i hl
        split at e
        · rename_i c hc
          cases e
          obtain ⟨a0, h0⟩ := S.fwd _ _ hc
          have := x.keep _ _ h0
          rw [hb] at this
          cases this
          exact .ref h0
        · cases e
      · rename_i hl
        split at e
        · rename_i xs hc
          obtain ⟨ws, e1, rfl⟩ := Option.map_eq_some_iff.mp e
          obtain ⟨a', hb', vs, hv, rs⟩ := S'.at hc
          rw [hb] at hb'; cases hb'
          refine .lst hv ⟨fun q => (S'.priv _ q).2 _ hb, fun q z => ?_⟩ (lists _ _ _ e1 rs)
          have := S'.inj _ _ _ (x.keep _ _ z) hb
          subst this
          exact hl (S.bwd _ _ z).1
        · cases e
    | fn k => simp only [frzV] at e; cases e; exact .fn k
theorem Pst.folded (S : Sim L β H h) {o : Out Val} {Q : VK} {E : XK} (p : Pst L β H (fold h o) Q E) : Pst L β H o Q E := by
  cases o with
  | ok v h2 =>
    intro u β2 H2 x s r
    unfold fold at p
    simp only at p
    split at p
    · rename_i q
      split at p
      · rename_i w ew
        exact p u β H2 (same_ext x) (same_sim S x s q) (frz_ok S x s 64 _ _ _ ew r)
      · exact p.elim
    · exact p.elim
  | exc y h2 =>
    intro cls d β2 H2 x s r
    unfold fold at p
    simp only at p
    split at p
    · rename_i q
      exact p cls d β H2 (same_ext x) (same_sim S x s q) r
    · exact p.elim
  | bad => exact p
end

/-! ### raise -/
section
variable {X : Cx} {L : Lk} {F : Fns} {W : WX} {lv : Nat}
theorem pmk_own0 {C : Addr} {bmB : List Value} {B newId initId : String} {x : PySem.Str} {p pos : Pos} (Fb : ExcBaseFacts B newId initId bmB) (q : PySem.W.excIn X.K C bmB newId = true) (gC : X.mg x = some (.ref C))
    (kC : PySem.W.keepIn X.K (.ref C) = true) (r : Raises X (.ref C)) (hg : Gl X x) (hdb : (x == ("__debug__" : PySem.Str)) = false) : PMk X (.Call (.Name x p) [] [] pos) (fun _ H Q => Q (.ref C) none H) := by
  intro pins s σ H Q I h
  refine wpAny_Call_Name_kw (ld_glob I hg gC ?_ hdb)
  refine PySem.W.callWith_K0 I.kIn kC ?_
  show wpAny _ _ (call (.ref C) []) _ _ _
  obtain ⟨bm, N, nm, qn, bs, hdct, sn, sub, ab, col, dd, k0, k1, k2, k3, k5, mN, hC, hN, hni, T⟩ := exc_obj I.kIn q
  refine wpAny_call_exc_subT Fb T hC hN hni (fun h' e hm => ?_) (by show 0 ≤ sizeLine; omega)
  exact mk_of I hm r h (I.hok.gone hm.new)
theorem s_raise0 {x : PySem.Str} {c : Nat} {p pos pos' : Pos} (G : Gd X L W lv) (K0 : Lf X.K L) (hg : Gl X x) (hm : X.mg x = some (.ref (L.ca c))) (hdb : (x == ("__debug__" : PySem.Str)) = false) (hx : L.T.exn c = some false) :
    PS X (.Raise (some (.Call (.Name x p) [] [] pos)) none pos') (tS L F W (.raise c [])) := by
  obtain ⟨q1, q2, q3, q4⟩ := K0.exn0 c hx
  refine pwS fun pins s σ H D I ⟨β, h, ρ, S, R, p0⟩ => ⟨_, ps_raise G.calm G.tk (pmk_own0 PySem.F.excBase_ValueError q1 hm q2 (raises_own q3 q4) hg hdb), ?_⟩
  unfold exS evEs at p0
  simp only [Out.stm_ok, hx] at p0
  exact p0 _ _ _ _ _ .refl S R ⟨rfl, .inl ⟨rfl, rfl⟩⟩
theorem s_raise1 {x : PySem.Str} {c : Nat} {e : Expr} {m : E} {p pos pos' : Pos} (G : Gd X L W lv) (K0 : Lf X.K L) (hg : Gl X x) (hm : X.mg x = some (.ref (L.ca c))) (hdb : (x == ("__debug__" : PySem.Str)) = false) (hx : L.T.exn c = some false)
    (hs : notStar e = true) (he : PE X e (tI L F W m)) : PS X (.Raise (some (.Call (.Name x p) [e] [] pos)) none pos') (tS L F W (.raise c [m])) := by
  obtain ⟨q1, q2, q3, q4⟩ := K0.exn0 c hx
  refine pwS fun pins s σ H D I ⟨β, h, ρ, S, R, p0⟩ => ⟨_, ps_raise G.calm G.tk (SkE.pmk_own1 PySem.F.excBase_ValueError q1 hm q2 (raises_own q3 q4) hg he (starEach_of hs) hdb), ?_⟩
  unfold exS at p0
  simp only [evEs_cons, evEs_nil] at p0
  refine tI_of S R ?_
  cases eo : evE L.T F m ρ h with
  | ok v h1 =>
    rw [eo] at p0
    simp only [Out.bind_ok, Out.stm_ok, hx] at p0
    exact fun u β1 H1 x1 S1 r1 => p0 _ _ σ β1 H1 x1 S1 (R.mono S x1) ⟨rfl, .inl ⟨rfl, rfl⟩⟩
  | exc y h1 =>
    rw [eo] at p0
    simp only [Out.bind_exc, Out.stm_exc] at p0
    exact fun cls d β1 H1 x1 S1 r1 => p0 _ _ σ β1 H1 x1 S1 (R.mono S x1) r1
  | bad => rw [eo] at p0; exact p0.elim
/-- what such an __init__ promises -/
def spLine (K : PySem.W.Frag) : Sp := fun vs H Q _ => ∃ (a C : Addr) (y : V), vs = [.ref a, y] ∧ OexC K C ∧ PySem.W.findIn K (.ref C) "line" = some none ∧ H a = some (exo a C none) ∧
  ∀ dx, H dx = none → dx ≠ a → Q .non (upd (upd H dx (exd dx [("line", y)])) a (exo a C (some dx)))
theorem line_ok {P : Program} {w : World} {K : PySem.W.Frag} {mg : PySem.Str → Option Value} {base : PySem.Heap} {k : Nat} {fI : Addr} {fd : FuncData} {x qual : PySem.Str} {params : Arguments} {scope : Scope} {p1 p2 p3 p4 : Pos}
    (Fd : FunD K x qual params [.Assign [.Attribute (.Name "self" p1) "line" p2] (.Name "line" p3) p4] scope [] [] fI fd) (Sc : FnScope ["self", "line"] ["self", "line"] scope) :
    FnOk P w K mg base (L2.CX P w) (k + 1) fI fd ["self", "line"] (spLine K) := by
  refine Fd.ok Sc (fun vs H Q E ⟨a, C, y, e, _⟩ => by rw [e]; rfl) fun cdv A outer s H vs Q E hr ⟨a, C, y, e, T, hno, ea, q⟩ => ?_
  subst e
  have vis : ∀ z : PySem.Str, z ∈ (["self", "line"] : List PySem.Str) → Vis scope z := fun z hz => by
    rcases Sc.par z hz with h | h
    · exact .inl h
    · exact .inr (.inl h)
  refine ⟨_, pss_cons (ps_ost (pe_var (i := 0) rfl (vis _ (by simp)) (by decide) (by decide)) (pe_var (i := 1) rfl (vis _ (by simp)) (by decide) (by decide)) (by rfl)) pss_nil, ?_⟩
  exact ⟨_, rfl, _, rfl, a, C, rfl, T, hno, .inl ⟨ea, fun dx n ne => q dx n ne⟩⟩
theorem s_raiseL {x : PySem.Str} {c : Nat} {e : Expr} {m : E} {p pos pos' : Pos} (G : Gd X L W (lv + 2)) (K0 : Lf X.K L) (hg : Gl X x) (hm : X.mg x = some (.ref (L.ca c))) (hdb : (x == ("__debug__" : PySem.Str)) = false) (hx : L.T.exn c = some true)
    (hs : notStar e = true) (he : PE X e (tI L F W m)) : PS X (.Raise (some (.Call (.Name x p) [e] [] pos)) none pos') (tS L F W (.raise c [m])) := by
  obtain ⟨ox, no, fI, fd, y, qual, params, scope, p1, p2, p3, p4, iC, tI0, Fd, Sc, hb⟩ := K0.exn1 c hx
  have ha : PA X [e] (tIs L F W [m]) := s_cons hs he s_nil
  refine pwS fun pins s σ H D I ⟨β, h, ρ, S, R, p0⟩ => ⟨_, ps_raise G.calm G.tk (pmk_oex (k := 1) (dvs := []) ox iC tI0 (line_ok (k := 0) Fd Sc) (G.hr.mono (by omega)) hb .nil passL hg hm ha hdb (starEach_of hs) rfl), ?_⟩
  unfold exS at p0
  refine tIs_of S R ?_
  simp only [evEs_cons, evEs_nil] at p0 ⊢
  cases eo : evE L.T F m ρ h with
  | ok v h1 =>
    rw [eo] at p0
    simp only [Out.bind_ok, Out.stm_ok, hx] at p0 ⊢
    intro us β1 H1 x1 S1 r1
    cases v with
    | int i =>
      cases r1 with
      | cons r1 rn =>
        cases rn
        cases r1
        refine ⟨by show 1 ≤ 1000; omega, fun a na => ⟨a, L.ca c, .int i, rfl, ox, no, upd_same, fun dx ndx hne => ⟨rfl, dx, [("line", .int i)], upd_same, ?_, ?_, ?_⟩⟩⟩
        · rw [upd_ne hne, upd_same]
        · rw [upd_ne hne] at ndx; exact ndx
        · rw [upd_ne hne] at ndx
          have eh : upd (del (upd (upd (upd H1 a (exo a (L.ca c) none)) dx (exd dx [("line", V.int i)])) a (exo a (L.ca c) (some dx))) a) dx (.xd [("line", V.int i)]) = upd H1 dx (.xd [("line", V.int i)]) := by
            funext b
            by_cases hbd : b = dx
            · subst hbd; rw [upd_same, upd_same]
            · rw [upd_ne hbd, upd_ne hbd]
              by_cases hba : b = a
              · subst hba; rw [del_same]; exact na.symm
              · rw [del_ne hba, upd_ne hba, upd_ne hbd, upd_ne hba]
          rw [eh]
          exact p0 _ _ σ β1 _ (x1.trans (Ext.laid S1 ndx)) (S1.laid ndx) ((R.mono S x1).mono S1 (Ext.laid S1 ndx)) ⟨rfl, .inr ⟨.int i, dx, i, rfl, rfl, rfl, upd_same⟩⟩
    | _ => exact p0.elim
  | exc y h1 =>
    rw [eo] at p0
    simp only [Out.bind_exc, Out.stm_exc] at p0 ⊢
    exact fun cls d β1 H1 x1 S1 r1 => p0 _ _ σ β1 H1 x1 S1 (R.mono S x1) r1
  | bad => rw [eo] at p0; exact p0.elim

/-! ### try -/
theorem s_try {x : PySem.Str} {c : Nat} {body suite : List Stmt} {b0 : Stmt} {np pos pos' : Pos} {mb ms : List S} (K0 : Lf X.K L) (tk : Takes X W) (hst : X.stack = X.env :: X.outer) (hf : X.env.frame = some X.env.locals) (hg : Gl X x) (hm : X.mg x = some (.ref (L.ca c)))
    (hdb : (x == ("__debug__" : PySem.Str)) = false) (hb : ∀ (W' : WX) (pn : List (Addr × Obj)) (xe : Value → Shared → Prop), Takes (X.tr pn xe) W' → PassesOwn (model X.prog X.w) X.A X.env xe → PSs (X.tr pn xe) body (tSs L F W' mb))
    (hsu : ∀ (a : Addr) (oe : Obj) (pn : List (Addr × Obj)), PSs (X.suite a ((a, oe) :: pn)) (b0 :: suite) (tSs L F noW ms)) :
    PS X (.Try body [.ExceptHandler (some (.Name x np)) none (b0 :: suite) pos'] [] [] pos) (tS L F W (.try_ mb c ms)) := by
  refine pwS fun pins s σ H D I ⟨β, h, ρ, S, R, p⟩ => ⟨_, ps_try_only (tb := fun W' => tSs L F W' mb) (ts := fun _ _ _ => tSs L F noW ms) hst hf ⟨hg, hdb, .inl hm⟩ tk hb (fun a oe cls d pn _ _ => hsu a oe pn), β, h, ρ, S, R, ?_⟩
  unfold exS at p
  cases eo : exB L.T F mb ρ h with
  | exc y ρ1 h1 =>
    rw [eo] at p
    intro cls d σ' β' H' x' S' R' hy
    have hcl := hy.1
    subst hcl
    simp only at p
    cases eq : L.T.sub y.c c with
    | none => rw [eq] at p; exact p.elim
    | some b =>
      rw [eq] at p
      refine ⟨b, K0.exm _ _ _ eq, fun hb1 a na => ?_, fun hb1 => ?_⟩
      · subst hb1
        refine ⟨β', h1, ρ1, S', R', ?_⟩
        simp only at p
        cases es : exB L.T F ms ρ1 h1 with
        | exc z ρ2 h2 => rw [es] at p; exact p.elim
        | nx ρ2 h2 => rw [es] at p; exact Sst.mono x' p
        | rt v h2 => rw [es] at p; exact Sst.mono x' p
        | bk ρ2 h2 => rw [es] at p; exact Sst.mono x' p
        | ct ρ2 h2 => rw [es] at p; exact Sst.mono x' p
        | bad => rw [es] at p; exact p.elim
      · subst hb1
        exact p _ d σ' β' H' x' S' R' hy
  | nx ρ1 h1 => rw [eo] at p; exact p
  | rt v h1 => rw [eo] at p; exact p
  | bk ρ1 h1 => rw [eo] at p; exact p
  | ct ρ1 h1 => rw [eo] at p; exact p
  | bad => rw [eo] at p; exact p.elim
end
end MP

/-! Mp1l: try .. except C as e -/
namespace MP
open PySem PySem.Spec PyProof.Rows L2

/-! ### what stands for itself: constants, tuples of constants -/
def cstE : Expr → Option (E × Val)
  | .Constant (.int i) _ _ => some (.cst (.int i), .int i)
  | .Constant (.bool b) _ _ => some (.cst (.bl b), .bl b)
  | .Constant .none _ _ => some (.cst .non, .non)
  | .Constant (.str s) _ _ => some (.cst (.str s.cps.toList), .str s.cps.toList)
  | _ => none
def cstEs : List Expr → Option (List E × List Val)
  | [] => some ([], [])
  | e :: r => match cstE e, cstEs r with
    | some (m, v), some (ms, vs) => if notStar e then some (m :: ms, v :: vs) else none
    | _, _ => none
def cstR : Expr → Option (E × Val)
  | .Tuple es _ _ => match cstEs es with
    | some (ms, vs) => if vs.length ≤ 100 then some (.tup ms, .tup vs) else none
    | none => none
  | e => cstE e
section
variable {X : Cx} {L : Lk} {F : Fns} {W : WX}
theorem cstE_ok {e : Expr} {m : E} {v : Val} (h : cstE e = some (m, v)) : PE X e (tI L F W m) ∧ ∀ ρ h, evE L.T F m ρ h = .ok v h := by
  unfold cstE at h
  split at h <;> first | (cases h; done) | (cases h; refine ⟨by first | exact s_int | exact s_bl | exact s_non | exact s_str, fun ρ h => by unfold evE; rfl⟩)
theorem cstEs_ok : ∀ {es : List Expr} {ms : List E} {vs : List Val}, cstEs es = some (ms, vs) → PA X es (tIs L F W ms) ∧ ∀ ρ h, evEs L.T F ms ρ h = .ok vs h
  | [], _, _, h => by cases h; exact ⟨s_nil, fun ρ h => evEs_nil _ _ _ _⟩
  | e :: r, ms, vs, h => by
    unfold cstEs at h
    split at h
    · rename_i m v ms' vs' e1 e2
      split at h
      · rename_i hs
        cases h
        obtain ⟨a1, a2⟩ := cstE_ok (X := X) (L := L) (F := F) (W := W) e1
        obtain ⟨b1, b2⟩ := cstEs_ok e2
        exact ⟨s_cons hs a1 b1, fun ρ h => by rw [evEs_cons, a2, Out.bind_ok, b2, Out.bind_ok]⟩
      · cases h
    · cases h
theorem cstR_ok {e : Expr} {m : E} {v : Val} (h : cstR e = some (m, v)) : PE X e (tI L F W m) ∧ ∀ ρ h, evE L.T F m ρ h = .ok v h := by
  unfold cstR at h
  split at h
  · split at h
    · rename_i ms vs e1
      split at h
      · rename_i hl
        cases h
        obtain ⟨a1, a2⟩ := cstEs_ok (X := X) (L := L) (F := F) (W := W) e1
        refine ⟨s_tup a1, fun ρ h => ?_⟩
        unfold evE
        rw [a2, Out.bind_ok, if_pos (by have : line = 16777216 := rfl; omega)]
      · cases h
    · cases h
  · exact cstE_ok h
end

/-! ### the suite -/
theorem ExR.mono {L : Lk} {β β' : Bt} {H H' : Hp} {h : Heap} (S : Sim L β H h) (x : Ext β H β' H') {cls : Value} {d : Option Addr} {y : Exc} (r : ExR L H cls d y) : ExR L H' cls d y := by
  refine ⟨r.1, ?_⟩
  rcases r.2 with h1 | ⟨v, dd, i, e1, e2, e3, e4⟩
  · exact .inl h1
  · refine .inr ⟨v, dd, i, e1, e2, e3, x.rest _ _ e4 fun q eq => ?_⟩
    obtain ⟨_, c, _, cr⟩ := S.bwd _ _ eq
    rcases cr.ne with ⟨_, z⟩ | ⟨_, z⟩ | ⟨_, _, z⟩ | ⟨_, _, _, z⟩ <;> (rw [z] at e4; cases e4)
def tHX (L : Lk) (a : Addr) (i : Nat) (x : Exc) (d : Option Addr) (t : HX) : TT := fun σ H Q => ∃ (β : Bt) (h : Heap) (ρ : Env) (b : Bool), Sim L β H h ∧ ER L β H σ ρ ∧ σ[i]? = some (some (.ref a)) ∧ ExR L H (.ref (L.ca x.c)) d x ∧ hxV L.T x ρ t = some b ∧ ∀ β' H', Ext β H β' H' → Sim L β' H' h → Q b H'
def tHs (L : Lk) (a : Addr) (i : Nat) (x : Exc) (d : Option Addr) (ts : List (HX × HR)) (last : HR) : TS := fun D σ H => ∃ (β : Bt) (h : Heap) (ρ : Env) (v : Val), Sim L β H h ∧ ER L β H σ ρ ∧ σ[i]? = some (some (.ref a)) ∧ ExR L H (.ref (L.ca x.c)) d x ∧
  hxEnd L.T x ρ ts last = some v ∧ ∀ u β' H', Ext β H β' H' → Sim L β' H' h → VR L β' H' u v → D.rt u H'
def tHr (L : Lk) (a : Addr) (i : Nat) (x : Exc) (d : Option Addr) (r : HR) : TE := fun σ H Q => ∃ (β : Bt) (h : Heap) (ρ : Env) (v : Val), Sim L β H h ∧ ER L β H σ ρ ∧ σ[i]? = some (some (.ref a)) ∧ ExR L H (.ref (L.ca x.c)) d x ∧
  hrV L.T x r = some v ∧ ∀ u β' H', Ext β H β' H' → Sim L β' H' h → VR L β' H' u v → Q u H'
section
variable {X : Cx} {L : Lk} {F : Fns} {a : Addr} {i : Nat} {x : Exc} {d : Option Addr} {oe : Obj} {pn : List (Addr × Obj)}
theorem inst_exc {pins : List (Addr × Obj)} {σ : L2.St} {H : Hp} {s : Shared} (I : Inv (X.suite a ((a, oe) :: pn)) pins σ H s) (hz : Zc (.ref (L.ca x.c)) d oe) (hf : ∃ vs, oe.data = .fields vs) (hx : ExR L H (.ref (L.ca x.c)) d x) : ∃ od, PySem.W.InstAt s.heap a oe (L.ca x.c) od := by
  obtain ⟨ha, _⟩ := I.pin (a, oe) (List.mem_append_left _ List.mem_cons_self)
  obtain ⟨vs, hd⟩ := hf
  have hn : PySem.W.notCls oe = true := by unfold PySem.W.notCls; rw [hd] <;> rfl
  rcases hx.2 with ⟨_, rfl⟩ | ⟨v, dd, k, _, _, rfl, ea⟩
  · exact ⟨none, ha, hz.1, hn, by rw [hz.2]; trivial⟩
  · have ok : ObjOk X.prog X.w H s.heap dd (.xd [("line", .int k)]) := I.hok dd _ ea
    obtain ⟨mA, hns, hr⟩ := ok
    obtain ⟨od, ho, hl⟩ := lookIn_ns hns
    exact ⟨some od, ha, hz.1, hn, by rw [hz.2]; exact ho⟩
theorem hx_isi {n cn : PySem.Str} {c : Nat} {p1 p2 p3 pos : Pos} (hK : X.K = L.K) (K0 : Lf X.K L) (xi : L.T.xi = true) (hz : Zc (.ref (L.ca x.c)) d oe) (hf : ∃ vs, oe.data = .fields vs) (hN : X.N[i]? = some n) (v : Vis X.env.scope n) (q1 : (n == ("__debug__" : PySem.Str)) = false)
    (q2 : (n == ("__classdict__" : PySem.Str)) = false) (hg : Gl X "isinstance") (hm : X.mg "isinstance" = none) (hg2 : Gl X cn) (hm2 : X.mg cn = some (.ref (L.ca c))) (q3 : (cn == ("__debug__" : PySem.Str)) = false) :
    PT (X.suite a ((a, oe) :: pn)) (.Call (.Name "isinstance" p1) [.Name n p2, .Name cn p3] [] pos) (tHX L a i x d (.isE c)) := by
  have call : CallR (X.suite a ((a, oe) :: pn)) (.builtin "isinstance") (fun xs H Q => xs = [.ref a, .ref (L.ca c)] ∧ ExR L H (.ref (L.ca x.c)) d x ∧ ∃ b0, L.T.exn x.c = some b0 ∧ ∃ b, L.T.sub x.c c = some b ∧ Q (.bl b) H) := by
    intro pins s σ H xs us Q I r ⟨e, hx, b0, hb0, b, eb, q⟩
    subst e
    cases r with
    | cons rx rr =>
      cases rr with
      | cons rt rr =>
        cases rr
        cases rx
        cases rt
        obtain ⟨od, J⟩ := inst_exc (L := L) I hz hf hx
        have T := K0.exi xi x.c b0 hb0
        exact PySem.W.kia_one (PySem.W.kitx_exc T.ic T.ga T.gg T.sb T.ca T.cn T.ct T.mo) I.kIn J (K0.exk xi _ _ _ eb) (fun z => nomatch z) fun tk => ⟨.bl b, H, I.kept (t' := tk) fun _ _ z => z, rfl, q⟩
  have ha : PA (X.suite a ((a, oe) :: pn)) [.Name n p2, .Name cn p3] (tCons (tVar i) (tCons (tC (.ref (L.ca c))) tNil)) := pa_cons (pe_var hN v q1 q2) (pa_cons (pe_glob hg2 hm2 rfl q3) pa_nil)
  have he := pe_callB (p := p1) (pos := pos) call hg hm (by first | rfl | decide +kernel) ha (by decide +kernel) (by decide +kernel) rfl rfl
  refine pwT fun pins s σ H Q I ⟨β, h, ρ, b, S, R, e1, hx, eb, q⟩ => ⟨_, pt_truth he (plainT rfl _), ?_⟩
  simp only [hxV] at eb
  split at eb
  · rename_i b0 hb0
    exact ⟨_, e1, rfl, hx, b0, hb0, b, eb, b, truV (X := X) hK S (.bl b) rfl, q _ _ .refl S⟩
  · cases eb
theorem hx_line {n : PySem.Str} {p2 p3 : Pos} (K0 : Lf X.K L) (xi : L.T.xi = true) (hz : Zc (.ref (L.ca x.c)) d oe) (hf : ∃ vs, oe.data = .fields vs) (h1 : L.T.exn x.c = some true) (hN : X.N[i]? = some n) (v : Vis X.env.scope n)
    (q1 : (n == ("__debug__" : PySem.Str)) = false) (q2 : (n == ("__classdict__" : PySem.Str)) = false) : PE (X.suite a ((a, oe) :: pn)) (.Attribute (.Name n p2) "line" p3) (tXf a (.ref (L.ca x.c)) d (L.ca x.c) "line" (tVar i)) := by
  have T := K0.exi xi x.c true h1
  exact pe_xf ⟨T.ga, T.gg, T.sb, T.hd⟩ (K0.exn1 _ h1).no hz hf (pe_var hN v q1 q2) rfl
theorem hx_ne {n y : PySem.Str} {j : Nat} {p2 p3 p4 pos : Pos} (hK : X.K = L.K) (hu : X.A.units + 200 < cLine) (K0 : Lf X.K L) (xi : L.T.xi = true) (hz : Zc (.ref (L.ca x.c)) d oe) (hf : ∃ vs, oe.data = .fields vs) (hN : X.N[i]? = some n)
    (v : Vis X.env.scope n) (q1 : (n == ("__debug__" : PySem.Str)) = false) (q2 : (n == ("__classdict__" : PySem.Str)) = false) (hNy : X.N[j]? = some y) (vy : Vis X.env.scope y) (y1 : (y == ("__debug__" : PySem.Str)) = false) (y2 : (y == ("__classdict__" : PySem.Str)) = false) :
    PT (X.suite a ((a, oe) :: pn)) (.Compare (.Attribute (.Name n p2) "line" p3) [.NotEq] [.Name y p4] pos) (tHX L a i x d (.lineNe j)) := by
  refine pwT fun pins s σ H Q I ⟨β, h, ρ, b, S, R, e1, hx, eb, q⟩ => ?_
  simp only [hxV] at eb
  split at eb
  · rename_i k m e0 e2 e3
    cases eb
    obtain ⟨u, eu, ru⟩ := R.get _ _ e3
    cases ru
    rcases hx.2 with ⟨e4, _⟩ | ⟨w, dd, k', e4, e5, e6, ea⟩
    · rw [e4] at e2; cases e2
    · rw [e4] at e2; cases e2; cases e5
      refine ⟨_, pt_cmpR (o_ne (X.suite a ((a, oe) :: pn)) L hK hu) (hx_line K0 xi hz hf e0 hN v q1 q2) (pe_var hNy vy y1 y2) (unmarked rfl), ?_⟩
      refine ⟨_, e1, rfl, rfl, dd, _, .int k, e6, ea, by simp [List.lookup], ?_⟩
      refine ⟨_, eu, β, h, .int k, .int m, .bl (!(k == m)), S, .int k, .int m, by simp [opV, eqVal, toD, D.eqv], fun u' β' H' x' S' r' => ?_⟩
      cases r'
      exact ⟨_, rfl, q _ _ x' S'⟩
  · cases eb
theorem hx_not {e : Expr} {t : HX} {pos : Pos} {X' : Cx} (he : PT X' e (tHX L a i x d t)) : PT X' (.UnaryOp .Not e pos) (tHX L a i x d (.not t)) := by
  refine pwT fun pins s σ H Q I ⟨β, h, ρ, b, S, R, e1, hx, eb, q⟩ => ⟨_, pt_not he, ?_⟩
  obtain ⟨b', e2, rfl⟩ := Option.map_eq_some_iff.mp (show (hxV L.T x ρ t).map (!·) = some b from eb)
  exact ⟨β, h, ρ, b', S, R, e1, hx, e2, q⟩
theorem hx_or1 {e : Expr} {t : HX} {pos : Pos} {X' : Cx} (he : PT X' e (tHX L a i x d t)) : PW X' (.BoolOp .Or [e] pos) (tHX L a i x d t) := pw_or1 he
theorem hx_or {e b : Expr} {rest : List Expr} {t u : HX} {pos : Pos} {X' : Cx} (he : PT X' e (tHX L a i x d t)) (hb : PW X' (.BoolOp .Or (b :: rest) pos) (tHX L a i x d u)) : PW X' (.BoolOp .Or (e :: b :: rest) pos) (tHX L a i x d (.or t u)) := by
  refine pwW fun pins s σ H Q I ⟨β, h, ρ, k, S, R, e1, hx, eb, q⟩ => ⟨_, pw_or he hb, ?_⟩
  simp only [hxV] at eb
  split at eb
  · rename_i e2
    cases eb
    exact ⟨β, h, ρ, true, S, R, e1, hx, e2, fun β' H' x' S' => iteT (q β' H' x' S')⟩
  · rename_i e2
    exact ⟨β, h, ρ, false, S, R, e1, hx, e2, fun β' H' x' S' => iteF ⟨β', h, ρ, k, S', R.mono S x', e1, hx.mono S x', eb, fun β2 H2 x2 S2 => q β2 H2 (x'.trans x2) S2⟩⟩
  · cases eb
theorem hr_val {e : Expr} {m : E} {v : Val} {X' : Cx} {W : WX} (he : PE X' e (tI L F W m)) (hv : ∀ ρ h, evE L.T F m ρ h = .ok v h) : PE X' e (tHr L a i x d (.val v)) := by
  refine pwE fun pins s σ H Q I ⟨β, h, ρ, w, S, R, e1, hx, eb, q⟩ => ⟨_, he, β, h, ρ, S, R, ?_⟩
  cases eb
  rw [hv]
  exact q
theorem hr_line {n : PySem.Str} {p2 p3 : Pos} (K0 : Lf X.K L) (xi : L.T.xi = true) (hz : Zc (.ref (L.ca x.c)) d oe) (hf : ∃ vs, oe.data = .fields vs) (hN : X.N[i]? = some n) (v : Vis X.env.scope n)
    (q1 : (n == ("__debug__" : PySem.Str)) = false) (q2 : (n == ("__classdict__" : PySem.Str)) = false) : PE (X.suite a ((a, oe) :: pn)) (.Attribute (.Name n p2) "line" p3) (tHr L a i x d .line) := by
  refine pwE fun pins s σ H Q I ⟨β, h, ρ, w, S, R, e1, hx, eb, q⟩ => ?_
  simp only [hrV] at eb
  split at eb
  · rename_i k e0 e2
    cases eb
    rcases hx.2 with ⟨e4, _⟩ | ⟨w, dd, k', e4, e5, e6, ea⟩
    · rw [e4] at e2; cases e2
    · rw [e4] at e2; cases e2; cases e5
      exact ⟨_, hx_line K0 xi hz hf e0 hN v q1 q2, _, e1, rfl, rfl, dd, _, .int k, e6, ea, by simp [List.lookup], q _ _ _ .refl S (.int k)⟩
  · cases eb
theorem hs_last {e : Expr} {r : HR} {pos : Pos} {X' : Cx} (he : PE X' e (tHr L a i x d r)) : PSs X' [.Return (some e) pos] (tHs L a i x d [] r) := by
  refine pwSs fun pins s σ H D I ⟨β, h, ρ, v, S, R, e1, hx, eb, q⟩ => ⟨_, pss_one (ps_ret he), ?_⟩
  exact ⟨β, h, ρ, v, S, R, e1, hx, eb, q⟩
theorem hs_if {c e : Expr} {t : HX} {r last : HR} {ts : List (HX × HR)} {rest : List Stmt} {pos pos' : Pos} {X' : Cx} (hc : PT X' c (tHX L a i x d t)) (he : PE X' e (tHr L a i x d r)) (hr : PSs X' rest (tHs L a i x d ts last)) :
    PSs X' (.If c [.Return (some e) pos] [] pos' :: rest) (tHs L a i x d ((t, r) :: ts) last) := by
  refine pwSs fun pins s σ H D I ⟨β, h, ρ, v, S, R, e1, hx, eb, q⟩ => ⟨_, pss_cons (ps_if hc (pss_one (ps_ret he)) pss_nil) hr, ?_⟩
  simp only [hxEnd] at eb
  split at eb
  · rename_i e2
    exact ⟨β, h, ρ, true, S, R, e1, hx, e2, fun β' H' x' S' => iteT ⟨β', h, ρ, v, S', R.mono S x', e1, hx.mono S x', eb, fun u β2 H2 x2 S2 r2 => q u β2 H2 (x'.trans x2) S2 r2⟩⟩
  · rename_i e2
    exact ⟨β, h, ρ, false, S, R, e1, hx, e2, fun β' H' x' S' => iteF ⟨β', h, ρ, v, S', R.mono S x', e1, hx.mono S x', eb, fun u β2 H2 x2 S2 r2 => q u β2 H2 (x'.trans x2) S2 r2⟩⟩
  · cases eb
theorem ER.hidden {β : Bt} {H : Hp} {σ : L2.St} {ρ : Env} (R : ER L β H σ ρ) (i : Nat) (v : Option V) : ER L β H (σ.set i v) (ρ.set i none) :=
  ⟨by rw [List.length_set, List.length_set]; exact R.len, fun j y e => by
    by_cases z : i = j
    · subst z
      have hl : i < ρ.length := by
        have := (List.getElem?_eq_some_iff.mp e).1
        rwa [List.length_set] at this
      rw [List.getElem?_set_self hl] at e
      cases e
    · rw [List.getElem?_set_ne z] at e
      rw [List.getElem?_set_ne z]
      exact R.get j y e⟩
theorem s_tryAs {W : WX} {y n : PySem.Str} {c : Nat} {body suite : List Stmt} {b0 : Stmt} {np pos pos' : Pos} {mb : List S} {ts : List (HX × HR)} {last : HR} (K0 : Lf X.K L) (tk : Takes X W) (hst : X.stack = X.env :: X.outer) (hf : X.env.frame = some X.env.locals) (nd : X.N.Nodup)
    (hi : X.N[i]? = some n) (hln : X.env.kindOf n = some .local) (hg : Gl X y) (hm : X.mg y = some (.ref (L.ca c)))
    (hdb : (y == ("__debug__" : PySem.Str)) = false) (hb : ∀ (W' : WX) (pn : List (Addr × Obj)) (xe : Value → Shared → Prop), Takes (X.tr pn xe) W' → PassesOwn (model X.prog X.w) X.A X.env xe → PSs (X.tr pn xe) body (tSs L F W' mb))
    (hsu : ∀ (a : Addr) (oe : Obj) (d : Option Addr) (x : Exc) (pn : List (Addr × Obj)), Zc (.ref (L.ca x.c)) d oe → (∃ vs, oe.data = .fields vs) → PSs (X.suite a ((a, oe) :: pn)) (b0 :: suite) (tHs L a i x d ts last)) :
    PS X (.Try body [.ExceptHandler (some (.Name y np)) (some n) (b0 :: suite) pos'] [] [] pos) (tS L F W (.tryAs mb c i ts last)) := by
  have hsu2 : ∀ (a : Addr) (oe : Obj) (cls : Value) (d : Option Addr) (pn : List (Addr × Obj)), Zc cls d oe → (∃ vs, oe.data = .fields vs) →
      PSs (X.suite a ((a, oe) :: pn)) (b0 :: suite) (fun D σ H => ∃ x : Exc, cls = .ref (L.ca x.c) ∧ tHs L a i x d ts last D σ H) := fun a oe cls d pn hz hv => by
    refine pwSs fun pins s σ H D I ⟨x, e, q⟩ => ?_
    subst e
    exact ⟨_, hsu a oe d x pn hz hv, q⟩
  refine pwS fun pins s σ H D I ⟨β, h, ρ, S, R, p⟩ => ⟨_, ps_try_as (tb := fun W' => tSs L F W' mb) (ts := fun a cls d D σ H => ∃ x : Exc, cls = .ref (L.ca x.c) ∧ tHs L a i x d ts last D σ H) hst hf nd hi hln ⟨hg, hdb, .inl hm⟩ tk hb hsu2, β, h, ρ, S, R, ?_⟩
  unfold exS at p
  cases eo : exB L.T F mb ρ h with
  | exc x ρ1 h1 =>
    rw [eo] at p
    intro cls d σ' β' H' x' S' R' hy
    have hcl := hy.1
    subst hcl
    simp only at p
    cases eq : L.T.sub x.c c with
    | none => rw [eq] at p; exact p.elim
    | some b =>
      rw [eq] at p
      refine ⟨b, K0.exm _ _ _ eq, fun hb1 a na => ?_, fun hb1 => ?_⟩
      · subst hb1
        simp only at p
        split at p
        · rename_i hl
          split at p
          · rename_i v ev
            exact ⟨x, rfl, β', h1, ρ1.set i none, v, S', R'.hidden i _, List.getElem?_set_self (by rw [R'.len]; exact hl), hy, ev, fun u β2 H2 x2 S2 r2 => p u β2 H2 (x'.trans x2) S2 r2⟩
          · exact p.elim
        · exact p.elim
      · subst hb1
        exact p _ d σ' β' H' x' S' R' hy
  | nx ρ1 h1 => rw [eo] at p; exact p
  | rt v h1 => rw [eo] at p; exact p
  | bk ρ1 h1 => rw [eo] at p; exact p
  | ct ρ1 h1 => rw [eo] at p; exact p
  | bad => rw [eo] at p; exact p.elim
end
end MP

/-! Mp2: from the rows' trees to MP -/
namespace MP
open PySem PySem.Spec PyProof.Rows L2

inductive GV where
  | fn (k : Nat) | cls (c : Nat) | cst (v : Val)
  /-- a written dict: texts, tuples of defs -/
  | tab (rows : List (List Nat × List Nat))
/-- the names of the whole text -/
structure GT where
  gl : List (PySem.Str × GV)
  fld : List (PySem.Str × Nat)
  /-- defs that are called as they are written; with keywords -/
  pl : Nat → Bool
  kw : Nat → Nat → List PySem.Str → Option (List Bd)
  init : Nat → Option Nat
  isC : Nat → Bool
  exn : Nat → Option Bool
  xi : Bool
  /-- built-in names that the text does not bind -/
  blt : List PySem.Str
/-- a def's or a block's names -/
structure CK where
  N : List PySem.Str
  sc : Scope
  raw : List (PySem.Str × NameKind)
  /-- displays and slices are cells -/
  nl : Bool

def idxOf : List PySem.Str → PySem.Str → Option Nat
  | [], _ => none
  | y :: r, x => if x == y then some 0 else (idxOf r x).map (· + 1)
theorem idxOf_at : ∀ {N : List PySem.Str} {x : PySem.Str} {i : Nat}, idxOf N x = some i → N[i]? = some x
  | [], _, _, h => by cases h
  | y :: r, x, i, h => by
    unfold idxOf at h
    split at h
    · rename_i e
      cases h
      simp only [beq_iff_eq] at e
      subst e
      rfl
    · obtain ⟨j, e, rfl⟩ := Option.map_eq_some_iff.mp h
      simpa using idxOf_at e
def visK (sc : Scope) (x : PySem.Str) : Bool := match sc.names.lookup x with
  | some .local => true
  | some .cell => true
  | some .free => true
  | _ => false
theorem vis_of {sc : Scope} {x : PySem.Str} (h : visK sc x = true) : Vis sc x := by
  unfold visK at h
  unfold Vis
  split at h <;> simp_all
def glK (sc : Scope) (x : PySem.Str) : Bool := match sc.names.lookup x with
  | some .globalImplicit => true
  | _ => false
theorem gl_of {sc : Scope} {x : PySem.Str} (h : glK sc x = true) : sc.names.lookup x = some .globalImplicit := by
  unfold glK at h
  split at h
  · assumption
  · cases h
def odd (x : PySem.Str) : Bool := x == ("__debug__" : PySem.Str) || x == ("__classdict__" : PySem.Str)
theorem odd_of {x : PySem.Str} (h : odd x = false) : (x == ("__debug__" : PySem.Str)) = false ∧ (x == ("__classdict__" : PySem.Str)) = false := by
  unfold odd at h
  rw [Bool.or_eq_false_iff] at h
  exact h
/-- a slot that is read -/
def slotR (c : CK) (x : PySem.Str) : Option Nat := if visK c.sc x && !odd x then idxOf c.N x else none
/-- a slot that is stored -/
def slotW (c : CK) (x : PySem.Str) : Option Nat := match c.raw.lookup x with
  | some .local => idxOf c.N x
  | some .cell => idxOf c.N x
  | _ => none
def slotsW (c : CK) : List Expr → Option (List Nat)
  | [] => some []
  | .Name x _ :: r => match slotW c x, slotsW c r with
    | some i, some is => some (i :: is)
    | _, _ => none
  | _ => none
def tgOf (c : CK) : Expr → Option Tg
  | .Name x _ => (slotW c x).map .name
  | .Tuple ts _ _ => (slotsW c ts).map .tup
  | _ => none
def binO : Operator → Option Op
  | .Add => some .add | .Sub => some .sub | .Mult => some .mul | .FloorDiv => some .fdiv | .Mod => some .mod | .Pow => some .pow
  | _ => none
def cmpO : CmpOp → Op
  | .Eq => .eq | .NotEq => .ne | .Lt => .lt | .LtE => .le | .Gt => .gt | .GtE => .ge | .Is => .is | .IsNot => .isnot | .In => .isin | .NotIn => .notin
def bfOf (x : PySem.Str) : Option Bf :=
  if x == bfNm .len then some .len else if x == bfNm .int then some .int else if x == bfNm .tuple then some .tuple else if x == bfNm .max then some .max else if x == bfNm .min then some .min else
  if x == bfNm .sum then some .sum else if x == bfNm .all then some .all else if x == bfNm .any then some .any else if x == bfNm .str then some .str else if x == bfNm .list then some .list else none
theorem bfOf_nm {x : PySem.Str} {f : Bf} (h : bfOf x = some f) : x = bfNm f := by
  unfold bfOf at h
  repeat' split at h
  all_goals first | cases h | skip
  all_goals simp_all
def bmOf (x : PySem.Str) : Option Bm :=
  if x == bmNm .append then some .append else if x == bmNm .extend then some .extend else if x == bmNm .pop then some .pop else if x == bmNm .join then some .join else
  if x == bmNm .removeprefix then some .removeprefix else if x == bmNm .startswith then some .startswith else if x == bmNm .find then some .find else none
theorem bmOf_nm {x : PySem.Str} {f : Bm} (h : bmOf x = some f) : x = bmNm f ∧ f ≠ .get := by
  unfold bmOf at h
  repeat' split at h
  all_goals first | cases h | skip
  all_goals simp_all
def tyOf (x : PySem.Str) : Option Ty :=
  if x == Str.ofString "int" then some .int else if x == Str.ofString "bool" then some .bool else if x == Str.ofString "str" then some .str else if x == Str.ofString "tuple" then some .tuple else none
theorem tyOf_nm {x : PySem.Str} {t : Ty} (h : tyOf x = some t) : x = Str.ofString (tyNm t) ∧ ∀ c, t ≠ .cls c := by
  unfold tyOf at h
  repeat' split at h
  all_goals first | cases h | skip
  all_goals (simp only [beq_iff_eq] at *; exact ⟨by assumption, fun c z => by cases z⟩)

/-- a built-in name -/
def bltK (g : GT) (c : CK) (x : PySem.Str) : Bool := glK c.sc x && g.blt.contains x
/-- the own slots of a comprehension -/
def ownOf (N : List PySem.Str) : List (PySem.Str × NameKind) → List (PySem.Str × Nat)
  | [] => []
  | (x, k) :: r => match k, idxOf N x with
    | .local, some i => (x, i) :: ownOf N r
    | .cell, some i => (x, i) :: ownOf N r
    | _, _ => ownOf N r
def blkOf (c : CK) (scope : Scope) : CK := ⟨c.N, relS scope c.sc, scope.names, c.nl⟩
/-- a global as a value -/
def gvVal : GV → Option Val
  | .fn k => some (.fn k)
  | .cst v => some v
  | .cls _ => none
  | .tab _ => none
/-- a name of a written dict -/
def tabK (g : GT) (c : CK) : Expr → Option (List (List Nat × List Nat))
  | .Name x _ => match slotR c x with
    | some _ => none
    | none => if glK c.sc x && !odd x then match g.gl.lookup x with
        | some (.tab rows) => some rows
        | _ => none
      else none
  | _ => none
def isTup : Expr → Bool
  | .Tuple .. => true
  | _ => false

variable (g : GT)
mutual
def cE : Nat → CK → Expr → E
  | 0, _, _ => .stop
  | n + 1, c, e => match e with
    | .Name x _ => match slotR c x with
      | some i => .var i
      | none => if glK c.sc x && !odd x then match (g.gl.lookup x).bind gvVal with
          | some v => .cst v
          | none => .stop
        else .stop
    | .Constant (.int i) _ _ => .cst (.int i)
    | .Constant (.bool b) _ _ => .cst (.bl b)
    | .Constant .none _ _ => .cst .non
    | .Constant (.str s) _ _ => .cst (.str s.cps.toList)
    | .Tuple es _ _ => .tup (cEs n c es)
    | .List es _ => .lst c.nl (cEs n c es)
    | .Dict [] [] _ => .dic
    | .Dict keys values _ => if keys.all (·.isSome) && decide (keys.length = values.length) && !keys.isEmpty && decide (keys.length ≤ 15) then .dicI (cD n c keys values) else .stop
    | .BinOp a op b _ => match binO op with
      | some o => .op o (cE n c a) (cE n c b)
      | none => .stop
    | .Compare a [op] [b] _ => if notSet b then match tabK g c b with
        | some rows => match op with
          | .In => .gin rows (cE n c a)
          | _ => .stop
        | none => .op (cmpO op) (cE n c a) (cE n c b)
      else .stop
    | .Compare a [op, op'] [b, d] _ => if notSet d then .chain (cmpO op) (cmpO op') (cE n c a) (cE n c b) (cE n c d) else .stop
    | .UnaryOp .USub a _ => .neg (cE n c a)
    | .UnaryOp .Not a _ => .not (cE n c a)
    | .BoolOp .And vs _ => cV n c true vs
    | .BoolOp .Or vs _ => cV n c false vs
    | .IfExp q a b _ => .ite (cT n c q) (cE n c a) (cE n c b)
    | .Attribute o f _ => if notSuper o then match g.fld.lookup f with
        | some i => .attr (cE n c o) i
        | none => .stop
      else .stop
    | .Subscript a i _ => match i with
      | .Slice lo hi none _ => .slice c.nl (cE n c a) (cO n c lo) (cO n c hi)
      | i => if plainIx i then match tabK g c a with
          | some rows => .gget rows (cE n c i)
          | none => .sub (cE n c a) (cE n c i)
        else .stop
    | .Call (.Name x _) args [] _ => if args.all notStar then match slotR c x with
        | some i => match args with
          | [] => .stop
          | a :: as => .callV i (cEs n c (a :: as))
        | none => if glK c.sc x && !odd x then match g.gl.lookup x with
            | some (.fn k) => if g.pl k then .call k (match args with
                | [] => []
                | a :: as => cEs n c (a :: as)) else match args with
              | [] => .stop
              | a :: as => match g.kw k (a :: as).length [] with
                | some b => if (cEs n c (a :: as)).length = (a :: as).length then .callK k (cEs n c (a :: as) ++ []) b else .stop
                | none => .stop
            | some (.cls k) => match g.init k with
              | some f => if g.isC k && g.pl f then .make k (match args with
                | [] => []
                | a :: as => cEs n c (a :: as)) else .stop
              | none => .stop
            | some (.cst _) => .stop
            | some (.tab _) => .stop
            | none => if g.blt.contains x then match bfOf x with
                | some f => match args with
                  | [] => .stop
                  | a :: as => .bf f c.nl (cEs n c (a :: as))
                | none => if x == Str.ofString "isinstance" then match args with
                    | [a, .Name t _] => if bltK g c t then match tyOf t with
                        | some ty => .isi (cE n c a) ty
                        | none => .stop
                      else .stop
                    | _ => .stop
                  else .stop
              else .stop
          else .stop
      else .stop
    | .Call (.Name x _) (a :: as) (kw :: kws) _ => if (a :: as).all notStar && glK c.sc x && !odd x then match g.gl.lookup x, kwNames (kw :: kws) with
        | some (.fn k), some ks => match g.kw k (a :: as).length ks with
          | some b => if (cEs n c (a :: as)).length = (a :: as).length ∧ (cK n c (kw :: kws)).length = ks.length then .callK k (cEs n c (a :: as) ++ cK n c (kw :: kws)) b else .stop
          | none => .stop
        | _, _ => .stop
      else .stop
    | .Call (.Attribute o m apos) args [] pos => if notSuper o && (apos.endLine == pos.line) && args.all notStar && decide (args.length < 30) then match bmOf m with
        | some b => if b = .pop ∧ args.length ≠ 0 then .stop else .bm (cE n c o) b (match args with
          | [] => []
          | a :: as => cEs n c (a :: as))
        | none => match g.fld.lookup m with
          | some i => .meth (cE n c o) i (match args with
            | [] => []
            | a :: as => cEs n c (a :: as))
          | none => .stop
      else .stop
    | .ListComp elt [⟨tg, iter, ifs, 0⟩] scope _ => cC n c elt tg iter ifs scope
    | _ => .stop
def cEs : Nat → CK → List Expr → List E
  | 0, _, _ => [.stop]
  | _ + 1, _, [] => []
  | n + 1, c, e :: es => (if notStar e then cE n c e else .stop) :: cEs n c es
def cK : Nat → CK → List Keyword → List E
  | 0, _, _ => [.stop]
  | _ + 1, _, [] => []
  | n + 1, c, ⟨_, e, _⟩ :: es => cE n c e :: cK n c es
/-- a display's pairs -/
def cD : Nat → CK → List (Option Expr) → List Expr → List E
  | 0, _, _, _ => [.stop]
  | n + 1, c, ks, vs => match ks, vs with
    | [], [] => []
    | some k :: ks, v :: vs => cE n c k :: cE n c v :: cD n c ks vs
    | _, _ => [.stop]
/-- a part of a slice -/
def cO : Nat → CK → Option Expr → List E
  | 0, _, _ => [.stop]
  | _ + 1, _, none => []
  | n + 1, c, some e => [cE n c e]
/-- a and b and .., as a value -/
def cV : Nat → CK → Bool → List Expr → E
  | 0, _, _, _ => .stop
  | _ + 1, _, _, [] => .stop
  | n + 1, c, w, a :: r => match r with
    | [] => cE n c a
    | b :: r' => if w then .and (cE n c a) (cV n c w (b :: r')) else .or (cE n c a) (cV n c w (b :: r'))
/-- a test -/
def cT : Nat → CK → Expr → E
  | 0, _, _ => .stop
  | n + 1, c, e => match e with
    | .UnaryOp .Not a _ => .not (cT n c a)
    | .BoolOp .And vs _ => cW n c true vs
    | .BoolOp .Or vs _ => cW n c false vs
    | .Compare a [op] [b] _ => if notSet b then .op (cmpO op) (cE n c a) (cE n c b) else .stop
    | .Compare a [op, op'] [b, d] _ => if notSet d then .chain (cmpO op) (cmpO op') (cE n c a) (cE n c b) (cE n c d) else .stop
    | e => if isPlainT e then cE n c e else .stop
def cW : Nat → CK → Bool → List Expr → E
  | 0, _, _, _ => .stop
  | _ + 1, _, _, [] => .stop
  | n + 1, c, w, a :: r => match r with
    | [] => cT n c a
    | b :: r' => if w then .and (cT n c a) (cW n c w (b :: r')) else .or (cT n c a) (cW n c w (b :: r'))
/-- what is walked: its kind and its expressions -/
def cI : Nat → CK → Expr → Expr → Nat × List E
  | 0, _, _, _ => (0, [.stop])
  | n + 1, c, tg, e => match e with
    | .Call (.Name x _) [a] [] _ => if x == Str.ofString "range" && bltK g c x && notStar a then (2, cEs n c [a]) else (0, [cE n c e])
    | .Call (.Name x _) [a, b] [] _ => if x == Str.ofString "range" && bltK g c x && notStar a && notStar b then (3, cEs n c [a, b]) else if x == Str.ofString "zip" && bltK g c x && notStar a && notStar b && isTup tg then (5, cEs n c [a, b]) else (0, [cE n c e])
    | e => (0, [cE n c e])
def cC : Nat → CK → Expr → Expr → Expr → List Expr → Scope → E
  | 0, _, _, _, _, _, _ => .stop
  | n + 1, c, elt, tg, iter, ifs, scope => if notSet iter && blkC c.N c.sc scope (ownOf c.N scope.names) then match tgOf (blkOf c scope) tg with
      | some t => if (tgSlots t).all (fun i => ((ownOf c.N scope.names).map (·.2)).contains i) then match ifs with
          | [] => .comp false (cE n (blkOf c scope) elt) t (cI n c tg iter).1 (cI n c tg iter).2 [] ((ownOf c.N scope.names).map (·.2))
          | [q] => .comp false (cE n (blkOf c scope) elt) t (cI n c tg iter).1 (cI n c tg iter).2 [cT n (blkOf c scope) q] ((ownOf c.N scope.names).map (·.2))
          | _ => .stop
        else .stop
      | none => .stop
    else .stop
end
end MP

/-! Mp2b: what the translation gives is what the rows' trees do: expressions -/
namespace MP
open PySem PySem.Spec PyProof.Rows L2

structure CkOk (X : Cx) (c : CK) : Prop where
  N : X.N = c.N
  sc : X.env.scope = c.sc
  st : ∀ x, c.raw.lookup x = some .local ∨ c.raw.lookup x = some .cell → Loc X.env.scope x ∧ (X.fn x = true ∨ X.env.scope.names.lookup x = some .local)
structure Fx (X : Cx) (L : Lk) (F : Fns) (g : GT) (lv : Nat) : Prop where
  lf : Lf X.K L
  fn : ∀ x k, g.gl.lookup x = some (.fn k) → X.mg x = some (.ref (L.fa k))
  cls : ∀ x k, g.gl.lookup x = some (.cls k) → X.mg x = some (.ref (L.ca k))
  cst : ∀ x v, g.gl.lookup x = some (.cst v) → ∃ u, X.mg x = some u ∧ ∀ pv, Cst (L.pvs pv) u v
  blt : ∀ x, g.blt.contains x = true → X.mg x = none
  fld : ∀ x i, g.fld.lookup x = some i → L.nm i = x
  pl : ∀ k, g.pl k = true → PlainFn X.prog X.w X.K X.mg X.base L F lv k
  kw : ∀ k n ks b, g.kw k n ks = some b → KwFn X.prog X.w X.K X.mg X.base L F lv k n ks b
  init : ∀ c, g.init c = L.T.init c
  isC : ∀ c, g.isC c = L.T.isC c
  exn : ∀ c, g.exn c = L.T.exn c
  xi : g.xi = L.T.xi
  val : ∀ k, L.T.val k = true → g.pl k = true
  meth : ∀ c m k, L.T.isC c = true → L.T.meth c m = some k → g.pl k = true
  prop : ∀ c m k, L.T.isC c = true → L.T.prop c m = some k → g.pl k = true
  tab : ∀ x rows, g.gl.lookup x = some (.tab rows) → ∃ d, X.mg x = some (.ref d) ∧ TabAt X.K X.w d L.fa rows
theorem Lf.pvs {K : PySem.W.Frag} {L : Lk} (h : Lf K L) (pv : Addr → Prop) : Lf K (L.pvs pv) := ⟨h.inj, h.cls, h.noat, h.meth, h.prop, h.init, h.exn0, h.exn1, h.exm, h.exi, h.exk⟩
theorem Fx.pvs {X : Cx} {L : Lk} {F : Fns} {g : GT} {lv : Nat} (h : Fx X L F g lv) (pv : Addr → Prop) : Fx X (L.pvs pv) F g lv :=
  ⟨h.lf.pvs pv, h.fn, h.cls, fun x v e => by obtain ⟨u, a, b⟩ := h.cst x v e; exact ⟨u, a, fun pv => b pv⟩, h.blt, h.fld, h.pl, h.kw, h.init, h.isC, h.exn, h.xi, h.val, h.meth, h.prop, h.tab⟩
theorem Gd.dn {X : Cx} {L : Lk} {W : WX} {lv : Nat} (G : Gd X L W (lv + 1)) : Gd X L W lv := ⟨G.hK, G.calm, G.nd, G.hr.mono (Nat.le_succ _), G.tk, G.pass⟩

section
variable {X : Cx} {L : Lk} {F : Fns} {W : WX} {lv : Nat} {g : GT} {c : CK}
theorem gl_X (O : CkOk X c) {x : PySem.Str} (h : glK c.sc x = true) : Gl X x := by
  show X.env.scope.names.lookup x = _
  rw [O.sc]; exact gl_of h
theorem slotR_ok (O : CkOk X c) {x : PySem.Str} {i : Nat} (h : slotR c x = some i) : X.N[i]? = some x ∧ Vis X.env.scope x ∧ (x == ("__debug__" : PySem.Str)) = false ∧ (x == ("__classdict__" : PySem.Str)) = false := by
  unfold slotR at h
  split at h
  · rename_i q
    simp only [Bool.and_eq_true, Bool.not_eq_true'] at q
    exact ⟨by rw [O.N]; exact idxOf_at h, by rw [O.sc]; exact vis_of q.1, (odd_of q.2).1, (odd_of q.2).2⟩
  · cases h
theorem slotW_ok (O : CkOk X c) {x : PySem.Str} {i : Nat} (h : slotW c x = some i) : Sto X i x := by
  unfold slotW at h
  split at h
  · rename_i q
    obtain ⟨a, b⟩ := O.st x (.inl q)
    exact ⟨by rw [O.N]; exact idxOf_at h, a, b⟩
  · rename_i q
    obtain ⟨a, b⟩ := O.st x (.inr q)
    exact ⟨by rw [O.N]; exact idxOf_at h, a, b⟩
  · cases h
theorem slotsW_ok (O : CkOk X c) : ∀ {es : List Expr} {is : List Nat}, slotsW c es = some is → TgOk X es is
  | [], is, h => by cases h; exact .nil
  | e :: r, is, h => by
    cases e with
    | Name x p =>
      simp only [slotsW] at h
      split at h
      · rename_i i js e1 e2
        cases h
        exact .cons (slotW_ok O e1) (slotsW_ok O e2)
      · cases h
    | _ => cases h
theorem tgOf_ok (O : CkOk X c) (G : Gd X L W lv) {e : Expr} {t : Tg} (h : tgOf c e = some t) : PG X e (tG L t) := by
  cases e with
  | Name x p =>
    obtain ⟨i, e1, rfl⟩ := Option.map_eq_some_iff.mp (show (slotW c x).map .name = some t from h)
    exact s_gname G.nd (slotW_ok O e1)
  | Tuple ts k p =>
    obtain ⟨is, e1, rfl⟩ := Option.map_eq_some_iff.mp (show (slotsW c ts).map .tup = some t from h)
    exact s_gtup G.hK G.calm G.nd (slotsW_ok O e1)
  | _ => cases h
theorem blk_ok {scope : Scope} {Y : Cx} (O : CkOk X c) (hY : Blk X scope Y) : CkOk Y (blkOf c scope) := by
  obtain ⟨s, H, C, cl, fp, rfl⟩ := hY
  have hsc : (compEnvC scope cl C X.env).scope = relS scope X.env.scope := rfl
  refine ⟨O.N, by show (compEnvC scope cl C X.env).scope = relS scope c.sc; rw [hsc, O.sc], fun x h => ?_⟩
  have h : scope.names.lookup x = some .local ∨ scope.names.lookup x = some .cell := h
  rcases h with h | h
  · have := lookup_relS_keep (sc := X.env.scope) (by simp) h
    exact ⟨.inl this, .inr this⟩
  · have := lookup_relS_keep (sc := X.env.scope) (by simp) h
    exact ⟨.inr this, .inl (by show (scope.names.lookup x == some NameKind.cell) = true; rw [h]; rfl)⟩
theorem blk_gd {scope : Scope} {Y : Cx} (G : Gd X L W lv) (hY : Blk X scope Y) (pv : Addr → Prop) : Gd Y (L.pvs pv) noW lv := by
  obtain ⟨s, H, C, cl, fp, rfl⟩ := hY
  exact ⟨G.hK, G.calm, G.nd, G.hr, fun _ _ ⟨_, _, _, _, _, _, _, _, _, _, _, _, _, _, _, _, w⟩ => w.elim, PassesOwn.never⟩
theorem blk_fx {scope : Scope} {Y : Cx} (h : Fx X L F g lv) (hY : Blk X scope Y) : Fx Y L F g lv := by
  obtain ⟨s, H, C, cl, fp, rfl⟩ := hY
  exact ⟨h.lf, h.fn, h.cls, h.cst, h.blt, h.fld, h.pl, h.kw, h.init, h.isC, h.exn, h.xi, h.val, h.meth, h.prop, h.tab⟩
theorem s_badA {es : List Expr} {ms : List E} : PA X es (tIs L F W (.stop :: ms)) := ⟨fun pos pins s σ H Q I ⟨β, h, ρ, S, R, p⟩ => by
  rw [evEs_cons] at p; unfold evE at p; exact p.elim⟩
theorem s_badK {es : List Keyword} {ms : List E} : PK X es (tIs L F W (.stop :: ms)) := ⟨fun pos pins s σ H Q I ⟨β, h, ρ, S, R, p⟩ => by
  rw [evEs_cons] at p; unfold evE at p; exact p.elim⟩
theorem s_badP {e : Option Expr} {ms : List E} : PO X e (tPartI L F W (.stop :: ms)) := ⟨fun pins s σ H Q I ⟨β, h, ρ, S, R, p⟩ => by
  rw [evEs_cons] at p; unfold evE at p; exact p.elim⟩
theorem s_badT {e : Expr} : PT X e (tT L F W .stop) := ⟨fun pins s σ H Q I ⟨β, h, ρ, S, R, p⟩ => by
  unfold evE at p; exact p.elim⟩
theorem s_badW {e : Expr} : PW X e (tT L F W .stop) := ⟨fun wh pins s σ H Q I ⟨β, h, ρ, S, R, p⟩ => by
  unfold evE at p; exact p.elim⟩
theorem s_badI {tg e : Expr} {w : Nat} : PI X tg e (tWk L F W w [.stop]) := ⟨fun pins s σ H R I ⟨β, h, ρ, S, Re, p⟩ => by
  rw [evEs_cons] at p; unfold evE at p; exact p.elim⟩
end
def PartsOk (X : Cx) (L : Lk) (F : Fns) (W : WX) (elt ptg iter : Expr) (ifs : List Expr) (scope : Scope) (m : E) : Prop := m = .stop ∨ ∃ (new : Bool) (me : E) (t : Tg) (w : Nat) (it mifs : List E) (own : List (PySem.Str × Nat)), m = .comp new me t w it mifs (own.map (·.2)) ∧ w ≠ 1 ∧ notSet iter = true ∧
  (∀ i ∈ tgSlots t, i ∈ own.map (·.2)) ∧ PI X ptg iter (tWk L F W w it) ∧ BlkOk X.N X.env.scope scope own ∧ (∀ pv Y, Blk X scope Y → PG Y ptg (tG (L.pvs pv) t)) ∧ IfsOk L F X scope ifs mifs ∧ (∀ pv Y, Blk X scope Y → PE Y elt (tI (L.pvs pv) F noW me))
structure CAll (F : Fns) (g : GT) (lv n : Nat) : Prop where
  e : ∀ (X : Cx) (L : Lk) (W : WX) (c : CK), CkOk X c → Gd X L W (lv + 1) → Fx X L F g lv → ∀ e, PE X e (tI L F W (cE g n c e))
  es : ∀ (X : Cx) (L : Lk) (W : WX) (c : CK), CkOk X c → Gd X L W (lv + 1) → Fx X L F g lv → ∀ es, PA X es (tIs L F W (cEs g n c es))
  k : ∀ (X : Cx) (L : Lk) (W : WX) (c : CK), CkOk X c → Gd X L W (lv + 1) → Fx X L F g lv → ∀ es, PK X es (tIs L F W (cK g n c es))
  d : ∀ (X : Cx) (L : Lk) (W : WX) (c : CK), CkOk X c → Gd X L W (lv + 1) → Fx X L F g lv → ∀ ks vs, PDs X L F W ks vs (cD g n c ks vs)
  o : ∀ (X : Cx) (L : Lk) (W : WX) (c : CK), CkOk X c → Gd X L W (lv + 1) → Fx X L F g lv → ∀ e, PO X e (tPartI L F W (cO g n c e))
  v : ∀ (X : Cx) (L : Lk) (W : WX) (c : CK), CkOk X c → Gd X L W (lv + 1) → Fx X L F g lv → ∀ w vs pos, PE X (.BoolOp (if w then .And else .Or) vs pos) (tI L F W (cV g n c w vs))
  t : ∀ (X : Cx) (L : Lk) (W : WX) (c : CK), CkOk X c → Gd X L W (lv + 1) → Fx X L F g lv → ∀ e, PT X e (tT L F W (cT g n c e))
  w : ∀ (X : Cx) (L : Lk) (W : WX) (c : CK), CkOk X c → Gd X L W (lv + 1) → Fx X L F g lv → ∀ w vs pos, PW X (.BoolOp (if w then .And else .Or) vs pos) (tT L F W (cW g n c w vs))
  i : ∀ (X : Cx) (L : Lk) (W : WX) (c : CK), CkOk X c → Gd X L W (lv + 1) → Fx X L F g lv → ∀ tg e, PI X tg e (tWk L F W (cI g n c tg e).1 (cI g n c tg e).2) ∧ (cI g n c tg e).1 ≠ 1
  cc : ∀ (X : Cx) (L : Lk) (W : WX) (c : CK), CkOk X c → Gd X L W (lv + 1) → Fx X L F g lv → ∀ elt tg iter ifs scope, PartsOk X L F W elt tg iter ifs scope (cC g n c elt tg iter ifs scope)
theorem cAll_zero (F : Fns) (g : GT) (lv : Nat) : CAll F g lv 0 where
  e := fun X L W c _ _ _ e => by unfold cE; exact s_stopE
  es := fun X L W c _ _ _ e => by unfold cEs; exact s_badA
  k := fun X L W c _ _ _ e => by unfold cK; exact s_badK
  d := fun X L W c _ _ _ ks vs => by unfold cD; exact pds_bad
  o := fun X L W c _ _ _ e => by unfold cO; exact s_badP
  v := fun X L W c _ _ _ w vs pos => by unfold cV; exact s_stopE
  t := fun X L W c _ _ _ e => by unfold cT; exact s_badT
  w := fun X L W c _ _ _ w vs pos => by unfold cW; exact s_badW
  i := fun X L W c _ _ _ tg e => by unfold cI; exact ⟨s_badI, by decide⟩
  cc := fun X L W c _ _ _ elt tg iter ifs scope => by unfold cC; exact .inl rfl
theorem cEs_nil {g : GT} {n : Nat} {c : CK} : [] = ([] : List Expr) → cEs g (n + 1) c [] = [] := fun _ => by unfold cEs; rfl
section
variable {X : Cx} {L : Lk} {F : Fns} {W : WX} {lv : Nat} {g : GT} {c : CK} {n : Nat}
theorem Fx.gcst (A : Fx X L F g lv) {x : PySem.Str} {v : Val} (h : (g.gl.lookup x).bind gvVal = some v) : ∃ u, X.mg x = some u ∧ Cst L u v := by
  obtain ⟨gv, e1, e2⟩ := Option.bind_eq_some_iff.mp h
  cases gv with
  | fn k => cases e2; exact ⟨_, A.fn x k e1, .ref (L.fa k), rfl, fun β H h _ => .fn k⟩
  | cst v' =>
    cases e2
    obtain ⟨u, a, b⟩ := A.cst x v e1
    exact ⟨u, a, b L.pv⟩
  | cls k => cases e2
  | tab r => cases e2
theorem tabK_ok (O : CkOk X c) (T : Fx X L F g lv) {e : Expr} {rows : List (List Nat × List Nat)} (h : tabK g c e = some rows) : ∃ x p d, e = .Name x p ∧ Gl X x ∧ (x == ("__debug__" : PySem.Str)) = false ∧ X.mg x = some (.ref d) ∧ TabAt X.K X.w d L.fa rows := by
  unfold tabK at h
  split at h
  · rename_i x p
    split at h
    · cases h
    · split at h
      · rename_i q
        simp only [Bool.and_eq_true, Bool.not_eq_true'] at q
        split at h
        · rename_i r hr
          cases h
          obtain ⟨d, a, b⟩ := T.tab x rows hr
          exact ⟨x, p, d, rfl, gl_X O q.1, (odd_of q.2).1, a, b⟩
        · cases h
      · cases h
  · cases h
/-- the arguments of a call -/
theorem args_ok (ihs : ∀ es, PA X es (tIs L F W (cEs g n c es))) (args : List Expr) : PA X args (tIs L F W (match args with
    | [] => []
    | a :: as => cEs g n c (a :: as))) ∧ (args = [] → (match args with
    | [] => []
    | a :: as => cEs g n c (a :: as)) = []) := by
  cases args with
  | nil => exact ⟨s_nil, fun _ => rfl⟩
  | cons a as => exact ⟨ihs _, fun z => by cases z⟩
/-- binary operators -/
theorem binO_ok {op : Operator} {o : Op} (hK : X.K = L.K) (h : binO op = some o) : OpR X (binaryOp op) (rOp L o) := by
  cases op <;> cases h
  · exact o_add X L hK
  · exact o_sub X L
  · exact o_mul X L
  · exact o_mod X L
  · exact o_pow X L
  · exact o_fdiv X L
theorem cmpO_ok (op : CmpOp) (hK : X.K = L.K) (hu : X.A.units + 200 < cLine) : OpR X (compareOp op) (rOp L (cmpO op)) := by
  cases op
  · exact o_eq X L hK hu
  · exact o_ne X L hK hu
  · exact o_lt X L
  · exact o_le X L
  · exact o_gt X L
  · exact o_ge X L
  · exact o_is X L
  · exact o_isnot X L
  · exact o_in X L hK hu
  · exact o_notin X L hK hu
theorem cmpO_is (op : CmpOp) : isCmp (cmpO op) = true := by cases op <;> rfl
/-- the step -/
theorem e_step (A : CAll F g lv n) (O : CkOk X c) (G : Gd X L W (lv + 1)) (T : Fx X L F g lv) (e : Expr) : PE X e (tI L F W (cE g (n + 1) c e)) := by
  have ih := fun e => A.e X L W c O G T e
  have ihs := fun es => A.es X L W c O G T es
  have nil0 : ∀ {es : List Expr}, cEs g n c es = cEs g n c es := fun {_} => rfl
  unfold cE
  split
  · -- a name
    rename_i x p
    split
    · rename_i i hi
      obtain ⟨a, b, d, d2⟩ := slotR_ok O hi
      exact s_var a b d d2
    · split
      · rename_i q
        simp only [Bool.and_eq_true, Bool.not_eq_true'] at q
        split
        · rename_i v hv
          obtain ⟨u, a, b⟩ := T.gcst hv
          exact s_glob (gl_X O q.1) a b (odd_of q.2).1
        · exact s_stopE
      · exact s_stopE
  · exact s_int
  · exact s_bl
  · exact s_non
  · exact s_str
  · exact s_tup (ihs _)
  · exact s_lst _ (ihs _)
  · exact s_dic
  · split
    · rename_i q
      simp only [Bool.and_eq_true, Bool.not_eq_true', decide_eq_true_eq] at q
      obtain ⟨⟨⟨q1, q2⟩, q3⟩, q4⟩ := q
      exact s_dicI q1 q2 (fun z => by rw [z] at q3; cases q3) q4 (A.d X L W c O G T _ _)
    · exact s_stopE
  · split
    · rename_i o ho
      exact s_op2 (binO_ok G.hK ho) (ih _) (ih _)
    · exact s_stopE
  · split
    · rename_i hb
      split
      · rename_i rows hr
        obtain ⟨x, p, d, rfl, h1, h2, h3, h4⟩ := tabK_ok O T hr
        split
        · exact s_gin G.hK h1 h3 h2 h4 (ih _)
        · exact s_stopE
      · exact s_cmp hb (cmpO_ok _ G.hK G.hu) (ih _) (ih _)
    · exact s_stopE
  · split
    · rename_i hb
      exact s_chain (cmpO_is _) hb (cmpO_ok _ G.hK G.hu) (cmpO_ok _ G.hK G.hu) (ih _) (ih _) (ih _)
    · exact s_stopE
  · exact s_neg (ih _)
  · exact s_not G.hK (ih _)
  · exact A.v X L W c O G T true _ _
  · exact A.v X L W c O G T false _ _
  · exact s_ite (A.t X L W c O G T _) (ih _) (ih _)
  · split
    · rename_i hn
      split
      · rename_i i hi
        have := T.fld _ _ hi
        subst this
        exact s_attr G T.lf hn (ih _) fun c k ic e => T.pl k (T.prop c i k ic e)
      · exact s_stopE
    · exact s_stopE
  · split
    · exact s_slice G.hK _ (ih _) (A.o X L W c O G T _) (A.o X L W c O G T _)
    · split
      · rename_i hp
        split
        · rename_i rows hr
          obtain ⟨x, p, d, rfl, h1, h2, h3, h4⟩ := tabK_ok O T hr
          exact s_gget G.hK h1 h3 h2 h4 hp (ih _)
        · exact s_sub G.hK G.hu hp (ih _) (ih _)
      · exact s_stopE
  · -- a call of a name
    rename_i x p args pos
    split
    · rename_i hs
      split
      · rename_i i hi
        split
        · exact s_stopE
        · rename_i a as
          obtain ⟨q1, q2, d, d2⟩ := slotR_ok O hi
          exact s_callV G.dn hs q1 q2 d d2 (fun k hk => T.pl k (T.val k hk)) (ihs _)
      · split
        · rename_i q
          simp only [Bool.and_eq_true, Bool.not_eq_true'] at q
          have hg := gl_X O q.1
          have hd := (odd_of q.2).1
          split
          · rename_i k hk
            split
            · rename_i hp
              obtain ⟨r1, r2⟩ := args_ok ihs args
              exact s_call G.dn r2 hs hg (T.fn x k hk) hd (T.pl k hp) r1
            · split
              · exact s_stopE
              · rename_i a as
                split
                · rename_i b hb
                  split
                  · rename_i hl
                    exact s_callK G.dn hs (ks := []) rfl hl rfl hg (T.fn x k hk) hd (T.kw k _ _ _ hb) (ihs _) s_knil
                  · exact s_stopE
                · exact s_stopE
          · rename_i k hk
            split
            · rename_i f hf
              split
              · rename_i hq
                simp only [Bool.and_eq_true] at hq
                obtain ⟨r1, r2⟩ := args_ok ihs args
                exact s_make G T.lf r2 hs hg (T.cls x k hk) hd (by rw [← T.isC]; exact hq.1) (by rw [← T.init]; exact hf) (T.pl f hq.2) r1
              · exact s_stopE
            · exact s_stopE
          · exact s_stopE
          · exact s_stopE
          · split
            · rename_i hb
              have hm := T.blt x hb
              split
              · rename_i f hf
                split
                · exact s_stopE
                · have hx := bfOf_nm hf
                  subst hx
                  exact s_bf G.dn _ hs hg hm (ihs _)
              · split
                · rename_i hx
                  simp only [beq_iff_eq] at hx
                  subst hx
                  split
                  · rename_i a t p2
                    split
                    · rename_i hbt
                      split
                      · rename_i ty hty
                        obtain ⟨z1, z2⟩ := tyOf_nm hty
                        subst z1
                        simp only [bltK, Bool.and_eq_true] at hbt
                        simp only [List.all_cons, Bool.and_eq_true] at hs
                        refine s_isi G.dn ?_ hs.1 hg hm (gl_X O hbt.1) (T.blt _ hbt.2) (ih _)
                        cases ty with
                        | cls k => exact absurd rfl (z2 k)
                        | _ => trivial
                      · exact s_stopE
                    · exact s_stopE
                  · exact s_stopE
                · exact s_stopE
            · exact s_stopE
        · exact s_stopE
    · exact s_stopE
  · -- keywords
    split
    · rename_i q
      simp only [Bool.and_eq_true, Bool.not_eq_true'] at q
      split
      · rename_i k ks hk hks
        split
        · rename_i b hb
          split
          · rename_i hl
            exact s_callK G.dn q.1.1 hks hl.1 hl.2 (gl_X O q.1.2) (T.fn _ k hk) (odd_of q.2).1 (T.kw k _ _ _ hb) (ihs _) (A.k X L W c O G T _)
          · exact s_stopE
        · exact s_stopE
      · exact s_stopE
    · exact s_stopE
  · -- methods
    split
    · rename_i o m apos args pos q
      simp only [Bool.and_eq_true, decide_eq_true_eq] at q
      obtain ⟨r1, r2⟩ := args_ok ihs args
      split
      · rename_i b hb
        obtain ⟨z1, z2⟩ := bmOf_nm hb
        subst z1
        split
        · exact s_stopE
        · rename_i hq
          exact s_bm G.hK z2 q.1.1.1 q.1.1.2 q.1.2 q.2 r2 (ih _) r1 fun z => Classical.byContradiction fun w => hq ⟨z, fun u => w (List.length_eq_zero_iff.mp u)⟩
      · split
        · rename_i i hi
          have := T.fld _ _ hi
          subst this
          exact s_meth G.dn T.lf r2 q.1.1.1 q.1.1.2 q.1.2 q.2 (ih _) r1 fun c k ic e => T.pl k (T.meth c i k ic e)
        · exact s_stopE
    · exact s_stopE
  · -- a comprehension
    rcases A.cc X L W c O G T _ _ _ _ _ with h | ⟨new, me, t, w, it, mifs, own, h, h1, h2, h3, h4, h5, h6, h7, h8⟩
    · rw [h]; exact s_stopE
    · rw [h]; exact s_comp G.calm G.nd h1 h2 h3 h4 h5 h6 h7 h8
  · exact s_stopE
theorem es_step (A : CAll F g lv n) (O : CkOk X c) (G : Gd X L W (lv + 1)) (T : Fx X L F g lv) (es : List Expr) : PA X es (tIs L F W (cEs g (n + 1) c es)) := by
  cases es with
  | nil => unfold cEs; exact s_nil
  | cons e es =>
    unfold cEs
    split
    · rename_i h
      exact s_cons h (A.e X L W c O G T e) (A.es X L W c O G T es)
    · exact s_badA
theorem k_step (A : CAll F g lv n) (O : CkOk X c) (G : Gd X L W (lv + 1)) (T : Fx X L F g lv) (es : List Keyword) : PK X es (tIs L F W (cK g (n + 1) c es)) := by
  cases es with
  | nil => unfold cK; exact s_knil
  | cons e es =>
    obtain ⟨a, e, p⟩ := e
    unfold cK
    exact s_kcons (A.e X L W c O G T e) (A.k X L W c O G T es)
theorem d_step (A : CAll F g lv n) (O : CkOk X c) (G : Gd X L W (lv + 1)) (T : Fx X L F g lv) (ks : List (Option Expr)) (vs : List Expr) : PDs X L F W ks vs (cD g (n + 1) c ks vs) := by
  unfold cD
  split
  · exact pds_nil
  · exact pds_cons (A.e X L W c O G T _) (A.e X L W c O G T _) (A.d X L W c O G T _ _)
  · exact pds_bad
theorem o_step (A : CAll F g lv n) (O : CkOk X c) (G : Gd X L W (lv + 1)) (T : Fx X L F g lv) (e : Option Expr) : PO X e (tPartI L F W (cO g (n + 1) c e)) := by
  cases e with
  | none => unfold cO; exact s_part0
  | some e => unfold cO; exact s_part1 (A.e X L W c O G T e)
theorem v_step (A : CAll F g lv n) (O : CkOk X c) (G : Gd X L W (lv + 1)) (T : Fx X L F g lv) (w : Bool) (vs : List Expr) (pos : Pos) : PE X (.BoolOp (if w then .And else .Or) vs pos) (tI L F W (cV g (n + 1) c w vs)) := by
  cases vs with
  | nil => unfold cV; exact s_stopE
  | cons a r =>
    cases r with
    | nil => unfold cV; exact s_and1 (A.e X L W c O G T a)
    | cons b r =>
      have h := A.v X L W c O G T w (b :: r) pos
      unfold cV
      cases w with
      | true => exact s_and G.hK (A.e X L W c O G T a) h
      | false => exact s_or G.hK (A.e X L W c O G T a) h
theorem w_step (A : CAll F g lv n) (O : CkOk X c) (G : Gd X L W (lv + 1)) (T : Fx X L F g lv) (w : Bool) (vs : List Expr) (pos : Pos) : PW X (.BoolOp (if w then .And else .Or) vs pos) (tT L F W (cW g (n + 1) c w vs)) := by
  cases vs with
  | nil => unfold cW; exact s_badW
  | cons a r =>
    cases r with
    | nil =>
      unfold cW
      cases w with
      | true => exact s_tand1 (A.t X L W c O G T a)
      | false => exact s_tor1 (A.t X L W c O G T a)
    | cons b r =>
      have h := A.w X L W c O G T w (b :: r) pos
      unfold cW
      cases w with
      | true => exact s_tand (A.t X L W c O G T a) h
      | false => exact s_tor (A.t X L W c O G T a) h
theorem t_step (A : CAll F g lv n) (O : CkOk X c) (G : Gd X L W (lv + 1)) (T : Fx X L F g lv) (e : Expr) : PT X e (tT L F W (cT g (n + 1) c e)) := by
  have ih := fun e => A.e X L W c O G T e
  unfold cT
  split
  · exact s_tnot (A.t X L W c O G T _)
  · exact (A.w X L W c O G T true _ _).pt
  · exact (A.w X L W c O G T false _ _).pt
  · split
    · rename_i hb
      exact s_tcmp (cmpO_is _) hb (cmpO_ok _ G.hK G.hu) (ih _) (ih _)
    · exact s_badT
  · split
    · rename_i hb
      exact s_tchain (cmpO_is _) (cmpO_is _) hb (cmpO_ok _ G.hK G.hu) (cmpO_ok _ G.hK G.hu) (ih _) (ih _) (ih _)
    · exact s_badT
  · split
    · rename_i hp
      exact s_tplain G.hK hp (ih _)
    · exact s_badT
theorem n01 : (0 : Nat) ≠ 1 := by decide
theorem n21 : (2 : Nat) ≠ 1 := by decide
theorem n31 : (3 : Nat) ≠ 1 := by decide
theorem n51 : (5 : Nat) ≠ 1 := by decide
theorem i_step (A : CAll F g lv n) (O : CkOk X c) (G : Gd X L W (lv + 1)) (T : Fx X L F g lv) (tg e : Expr) : PI X tg e (tWk L F W (cI g (n + 1) c tg e).1 (cI g (n + 1) c tg e).2) ∧ (cI g (n + 1) c tg e).1 ≠ 1 := by
  have ih := fun e => A.e X L W c O G T e
  unfold cI
  split
  · split
    · rename_i x p a pos q
      simp only [Bool.and_eq_true, beq_iff_eq] at q
      obtain ⟨⟨q1, q2⟩, q3⟩ := q
      subst q1
      simp only [bltK, Bool.and_eq_true] at q2
      refine ⟨?_, n21⟩
      show PI X tg _ (tWk L F W 2 (cEs g n c [a]))
      exact s_w2 q3 (gl_X O q2.1) (T.blt _ q2.2) (A.es X L W c O G T [a])
    · exact ⟨s_w0 G.hK (ih _), n01⟩
  · split
    · rename_i x p a b pos q
      simp only [Bool.and_eq_true, beq_iff_eq] at q
      obtain ⟨⟨⟨q1, q2⟩, q3⟩, q4⟩ := q
      subst q1
      simp only [bltK, Bool.and_eq_true] at q2
      refine ⟨?_, n31⟩
      show PI X tg _ (tWk L F W 3 (cEs g n c [a, b]))
      exact s_w3 q3 q4 (gl_X O q2.1) (T.blt _ q2.2) (A.es X L W c O G T [a, b])
    · split
      · rename_i x p a b pos _ q
        simp only [Bool.and_eq_true, beq_iff_eq] at q
        obtain ⟨⟨⟨⟨q1, q2⟩, q3⟩, q4⟩, q5⟩ := q
        subst q1
        simp only [bltK, Bool.and_eq_true] at q2
        refine ⟨?_, n51⟩
        show PI X tg _ (tWk L F W 5 (cEs g n c [a, b]))
        cases tg with
        | Tuple elts kk tpos => exact s_w5 G.hK q3 q4 (gl_X O q2.1) (T.blt _ q2.2) (A.es X L W c O G T [a, b])
        | _ => cases q5
      · exact ⟨s_w0 G.hK (ih _), n01⟩
  · exact ⟨s_w0 G.hK (ih _), n01⟩
theorem cc_step (A : CAll F g lv n) (O : CkOk X c) (G : Gd X L W (lv + 1)) (T : Fx X L F g lv) (elt tg iter : Expr) (ifs : List Expr) (scope : Scope) : PartsOk X L F W elt tg iter ifs scope (cC g (n + 1) c elt tg iter ifs scope) := by
  unfold cC
  split
  · rename_i q
    simp only [Bool.and_eq_true] at q
    have ok : BlkOk X.N X.env.scope scope (ownOf c.N scope.names) := by rw [O.N, O.sc]; exact blkOk_by q.2
    split
    · rename_i t ht
      split
      · rename_i hs
        have hs : ∀ i ∈ tgSlots t, i ∈ (ownOf c.N scope.names).map (·.2) := fun i hi => by
          have := List.all_eq_true.mp hs i hi
          simpa using this
        obtain ⟨w1, w2⟩ := A.i X L W c O G T tg iter
        have hg : ∀ pv Y, Blk X scope Y → PG Y tg (tG (L.pvs pv) t) := fun pv Y hY => tgOf_ok (blk_ok O hY) (blk_gd G hY pv) ht
        have he : ∀ pv Y, Blk X scope Y → PE Y elt (tI (L.pvs pv) F noW (cE g n (blkOf c scope) elt)) := fun pv Y hY => A.e Y _ _ _ (blk_ok O hY) (blk_gd G hY pv) ((blk_fx T hY).pvs pv) elt
        split
        · exact .inr ⟨_, _, t, _, _, [], _, rfl, w2, q.1, hs, w1, ok, hg, .nil, he⟩
        · exact .inr ⟨_, _, t, _, _, [_], _, rfl, w2, q.1, hs, w1, ok, hg, .one fun pv Y hY => A.t Y _ _ _ (blk_ok O hY) (blk_gd G hY pv) ((blk_fx T hY).pvs pv) _, he⟩
        · exact .inl rfl
      · exact .inl rfl
    · exact .inl rfl
  · exact .inl rfl
theorem c_all (F : Fns) (g : GT) (lv : Nat) : ∀ n, CAll F g lv n
  | 0 => cAll_zero F g lv
  | n + 1 => by
    have A := c_all F g lv n
    exact ⟨fun X L W c O G T => e_step A O G T, fun X L W c O G T => es_step A O G T, fun X L W c O G T => k_step A O G T, fun X L W c O G T => d_step A O G T, fun X L W c O G T => o_step A O G T, fun X L W c O G T => v_step A O G T, fun X L W c O G T => t_step A O G T,
      fun X L W c O G T => w_step A O G T, fun X L W c O G T => i_step A O G T, fun X L W c O G T => cc_step A O G T⟩
end
end MP

/-! Mp2c: statements, defs -/
namespace MP
open PySem PySem.Spec PyProof.Rows L2

/-- is the slot of a comprehension's target name used at once -/
def swB (sc scope : Scope) (y : PySem.Str) (py pos : Pos) : Bool := sc.names.lookup y == some NameKind.local && py.line == pos.line && !(scope.names.any fun (n, k) => n == y && (k == .local || k == .cell))
theorem swB_eq {elt : Expr} {gs : List Comprehension} {scope : Scope} {pos py : Pos} {y : PySem.Str} {l : Nat} {env : PySem.Env} (hk : env.scope.kind = .function) : swapsWith (.ListComp elt gs scope pos) (some (.Name y py)) l env = pure (swB env.scope scope y py pos) := by
  have hb : env.blockKind = .function := by unfold PySem.Env.blockKind; rw [hk]; rfl
  have h : swapsWith (.ListComp elt gs scope pos) (some (.Name y py)) l env = pure (env.blockKind == .function && env.kindOf y == some .local && py.line == pos.line && !(scope.names.any fun (n, k) => n == y && (k == .local || k == .cell))) := rfl
  rw [h, hb]
  unfold swB PySem.Env.kindOf
  rfl
def augO : Operator → Option Op
  | .Add => some .add
  | .Sub => some .sub
  | _ => none
theorem augO_ok {op : Operator} {o : Op} (h : augO op = some o) : (op = .Add ∧ o = .add) ∨ (op = .Sub ∧ o = .sub) := by
  cases op <;> cases h
  · exact .inl ⟨rfl, rfl⟩
  · exact .inr ⟨rfl, rfl⟩

variable (g : GT)
/-- an exception class by its name -/
def excK (c : CK) (x : PySem.Str) : Option Nat := if glK c.sc x && !odd x then match g.gl.lookup x with
    | some (.cls k) => some k
    | _ => none
  else none
/-- a test of the caught exception n -/
def hxOf (c : CK) (n : PySem.Str) : Nat → Expr → Option HX
  | 0, _ => none
  | f + 1, e => match e with
    | .UnaryOp .Not a _ => (hxOf c n f a).map .not
    | .BoolOp .Or (a :: r) _ => hxOr c n f a r
    | .Call (.Name x _) [.Name m _, .Name k _] [] _ => if x == Str.ofString "isinstance" && m == n && bltK g c x then (excK g c k).map .isE else none
    | .Compare (.Attribute (.Name m _) l _) [.NotEq] [.Name y _] _ => if m == n && l == Str.ofString "line" then (slotR c y).map .lineNe else none
    | _ => none
where
  hxOr (c : CK) (n : PySem.Str) : Nat → Expr → List Expr → Option HX
  | 0, _, _ => none
  | f + 1, a, r => match r with
    | [] => hxOf c n f a
    | b :: r' => match hxOf c n f a, hxOr c n f b r' with
      | some t, some u => some (.or t u)
      | _, _ => none
def hrOf (n : PySem.Str) (e : Expr) : Option HR := match e with
  | .Attribute (.Name m _) l _ => if m == n && l == Str.ofString "line" then some .line else none
  | e => (cstR e).map fun q => .val q.2
def hsOf (c : CK) (n : PySem.Str) (f : Nat) : List Stmt → Option (List (HX × HR) × HR)
  | [.Return (some e) _] => (hrOf n e).map fun r => ([], r)
  | .If q [.Return (some e) _] [] _ :: rest => match hxOf g c n f q, hrOf n e, hsOf c n f rest with
    | some t, some r, some (ts, last) => some ((t, r) :: ts, last)
    | _, _, _ => none
  | _ => none
/-- an except suite: what is returned -/
def cH (c : CK) : List Stmt → List S
  | [.Return (some e) _] => match e with
    | .Name x _ => match slotR c x with
      | some i => [.ret (.var i)]
      | none => [.stop]
    | e => match cstR e with
      | some (m, _) => [.ret m]
      | none => [.stop]
  | _ => [.stop]
mutual
def cS : Nat → CK → Stmt → S
  | 0, _, _ => .stop
  | n + 1, c, st => match st with
    | .Expr (.Constant (.str _) _ _) _ => .pass
    | .Expr e _ => if notComp e then .expr (cE g n c e) else .stop
    | .Return (some e) _ => .ret (cE g n c e)
    | .Return none _ => .retN
    | .If q a b _ => .ife (cT g n c q) (cB n c a) (cB n c b)
    | .Assign [.Name x py] e spos => match slotW c x with
      | some i => if notComp e then .asg (.name i) (cE g n c e) else match e with
        | .ListComp elt [⟨tg, iter, ifs, 0⟩] scope pos => if swB c.sc scope x py pos then .asg (.name i) (cC g n c elt tg iter ifs scope) else .asg (.name i) (cE g n c e)
        | _ => .stop
      | none => .stop
    | .Assign [.Tuple ts _ _] e _ => match slotsW c ts with
      | some is => if notTup e then .asg (.tup is) (cE g n c e) else .stop
      | none => .stop
    | .AugAssign (.Name x _) op e _ => match slotW c x, augO op with
      | some i, some o => .augN i o (cE g n c e)
      | _, _ => .stop
    | .While q body [] _ => .whl (cT g n c q) (cB n c body)
    | .For tg iter body [] _ => match tgOf c tg with
      | some t => if notSet iter then .loop t (cI g n c tg iter).1 (cI g n c tg iter).2 (cB n c body) else .stop
      | none => .stop
    | .Raise (some (.Call (.Name x _) args [] _)) none _ => match excK g c x with
      | some k => match g.exn k, args with
        | some false, [] => .raise k []
        | some false, [e] => if notStar e then .raise k [cE g n c e] else .stop
        | some true, [e] => if notStar e then .raise k [cE g n c e] else .stop
        | _, _ => .stop
      | none => .stop
    | .Try body [.ExceptHandler (some (.Name x _)) none (b0 :: suite) _] [] [] _ => match excK g c x with
      | some k => .try_ (cB n c body) k (cH c (b0 :: suite))
      | none => .stop
    | .Try body [.ExceptHandler (some (.Name x _)) (some m) (b0 :: suite) _] [] [] _ => match excK g c x, slotR c m with
      | some k, some i => if g.xi && c.sc.names.lookup m == some .local then match hsOf g c m 60 (b0 :: suite) with
          | some (ts, last) => .tryAs (cB n c body) k i ts last
          | none => .stop
        else .stop
      | _, _ => .stop
    | .Pass _ => .pass
    | .Break _ => .brk
    | .Continue _ => .cont
    | _ => .stop
def cB : Nat → CK → List Stmt → List S
  | 0, _, _ => [.stop]
  | _ + 1, _, [] => []
  | n + 1, c, s :: r => cS n c s :: cB n c r
end

/-- a def's own context -/
structure Bdy (X : Cx) : Prop where
  kind : X.env.scope.kind = .function
  stk : X.stack = X.env :: X.outer
  frm : X.env.frame = some X.env.locals
structure SAll (F : Fns) (lv n : Nat) : Prop where
  s : ∀ (X : Cx) (L : Lk) (W : WX) (c : CK), CkOk X c → Bdy X → Gd X L W (lv + 2) → Fx X L F g (lv + 1) → ∀ st, PS X st (tS L F W (cS g n c st))
  b : ∀ (X : Cx) (L : Lk) (W : WX) (c : CK), CkOk X c → Bdy X → Gd X L W (lv + 2) → Fx X L F g (lv + 1) → ∀ st, PSs X st (tSs L F W (cB g n c st))
variable {g}
section
variable {X : Cx} {L : Lk} {F : Fns} {lv : Nat} {c : CK} {a : Addr} {i : Nat} {x : Exc} {d : Option Addr} {oe : Obj} {pn : List (Addr × Obj)} {n : PySem.Str}
theorem excK_ok (O : CkOk X c) (T : Fx X L F g lv) {y : PySem.Str} {k : Nat} (h : excK g c y = some k) : Gl X y ∧ X.mg y = some (.ref (L.ca k)) ∧ (y == ("__debug__" : PySem.Str)) = false := by
  unfold excK at h
  split at h
  · rename_i q
    simp only [Bool.and_eq_true, Bool.not_eq_true'] at q
    split at h
    · rename_i k' e
      cases h
      exact ⟨gl_X O q.1, T.cls _ _ e, (odd_of q.2).1⟩
    · cases h
  · cases h
/-- what the suite's context is -/
structure HxOk (X : Cx) (L : Lk) (c : CK) (n : PySem.Str) (i : Nat) : Prop where
  at_ : X.N[i]? = some n
  vis : Vis X.env.scope n
  d1 : (n == ("__debug__" : PySem.Str)) = false
  d2 : (n == ("__classdict__" : PySem.Str)) = false
mutual
theorem hxOf_ok (O : CkOk X c) (hK : X.K = L.K) (hu : X.A.units + 200 < cLine) (T : Fx X L F g lv) (xi : L.T.xi = true) (N : HxOk X L c n i) (hz : Zc (.ref (L.ca x.c)) d oe) (hf : ∃ vs, oe.data = .fields vs) :
    ∀ (f : Nat) (e : Expr) (t : HX), hxOf g c n f e = some t → PT (X.suite a ((a, oe) :: pn)) e (tHX L a i x d t)
  | 0, _, _, h => by unfold hxOf at h; cases h
  | f + 1, e, t, h => by
    unfold hxOf at h
    split at h
    · obtain ⟨u, eu, rfl⟩ := Option.map_eq_some_iff.mp h
      exact hx_not (hxOf_ok O hK hu T xi N hz hf f _ _ eu)
    · exact (hxOr_ok O hK hu T xi N hz hf f _ _ _ _ h).pt
    · split at h
      · rename_i q
        simp only [Bool.and_eq_true, beq_iff_eq, bltK] at q
        obtain ⟨⟨q1, q2⟩, q3, q4⟩ := q
        subst q1 q2
        obtain ⟨k, ek, rfl⟩ := Option.map_eq_some_iff.mp h
        obtain ⟨z1, z2, z3⟩ := excK_ok O T ek
        exact hx_isi hK T.lf xi hz hf N.at_ N.vis N.d1 N.d2 (gl_X O q3) (T.blt _ q4) z1 z2 z3
      · cases h
    · split at h
      · rename_i q
        simp only [Bool.and_eq_true, beq_iff_eq] at q
        obtain ⟨q1, q2⟩ := q
        subst q1 q2
        obtain ⟨j, ej, rfl⟩ := Option.map_eq_some_iff.mp h
        obtain ⟨y1, y2, y3, y4⟩ := slotR_ok O ej
        exact hx_ne hK hu T.lf xi hz hf N.at_ N.vis N.d1 N.d2 y1 y2 y3 y4
      · cases h
    · cases h
theorem hxOr_ok (O : CkOk X c) (hK : X.K = L.K) (hu : X.A.units + 200 < cLine) (T : Fx X L F g lv) (xi : L.T.xi = true) (N : HxOk X L c n i) (hz : Zc (.ref (L.ca x.c)) d oe) (hf : ∃ vs, oe.data = .fields vs) :
    ∀ (f : Nat) (e : Expr) (r : List Expr) (pos : Pos) (t : HX), hxOf.hxOr g c n f e r = some t → PW (X.suite a ((a, oe) :: pn)) (.BoolOp .Or (e :: r) pos) (tHX L a i x d t)
  | 0, _, _, _, _, h => by unfold hxOf.hxOr at h; cases h
  | f + 1, e, [], pos, t, h => by
    unfold hxOf.hxOr at h
    exact hx_or1 (hxOf_ok O hK hu T xi N hz hf f _ _ h)
  | f + 1, e, b :: r, pos, t, h => by
    unfold hxOf.hxOr at h
    simp only at h
    split at h
    · rename_i t1 t2 e1 e2
      cases h
      exact hx_or (hxOf_ok O hK hu T xi N hz hf f _ _ e1) (hxOr_ok O hK hu T xi N hz hf f _ _ _ _ e2)
    · cases h
end
theorem hrOf_ok (T : Fx X L F g lv) (xi : L.T.xi = true) (N : HxOk X L c n i) (hz : Zc (.ref (L.ca x.c)) d oe) (hf : ∃ vs, oe.data = .fields vs) {e : Expr} {r : HR} (h : hrOf n e = some r) : PE (X.suite a ((a, oe) :: pn)) e (tHr L a i x d r) := by
  unfold hrOf at h
  split at h
  · split at h
    · rename_i q
      simp only [Bool.and_eq_true, beq_iff_eq] at q
      obtain ⟨q1, q2⟩ := q
      subst q1 q2
      cases h
      exact hr_line T.lf xi hz hf N.at_ N.vis N.d1 N.d2
    · cases h
  · obtain ⟨⟨m, v⟩, em, rfl⟩ := Option.map_eq_some_iff.mp h
    obtain ⟨r1, r2⟩ := cstR_ok (X := X.suite a ((a, oe) :: pn)) (L := L) (F := F) (W := noW) em
    exact hr_val r1 r2
theorem hsOf_ok (O : CkOk X c) (hK : X.K = L.K) (hu : X.A.units + 200 < cLine) (T : Fx X L F g lv) (xi : L.T.xi = true) (N : HxOk X L c n i) (hz : Zc (.ref (L.ca x.c)) d oe) (hf : ∃ vs, oe.data = .fields vs) (f : Nat) :
    ∀ (st : List Stmt) (ts : List (HX × HR)) (last : HR), hsOf g c n f st = some (ts, last) → PSs (X.suite a ((a, oe) :: pn)) st (tHs L a i x d ts last)
  | [], _, _, h => by unfold hsOf at h; cases h
  | s :: r, ts, last, h => by
    unfold hsOf at h
    split at h
    · rename_i z
      obtain ⟨u, eu, e2⟩ := Option.map_eq_some_iff.mp h
      cases e2
      cases z
      exact hs_last (hrOf_ok T xi N hz hf eu)
    · rename_i z
      cases z
      split at h
      · rename_i t1 r1 ts1 l1 e1 e2 e3
        cases h
        exact hs_if (hxOf_ok O hK hu T xi N hz hf f _ _ e1) (hrOf_ok T xi N hz hf e2) (hsOf_ok O hK hu T xi N hz hf f _ _ _ e3)
      · cases h
    · cases h
theorem s_badH {X' : Cx} {W : WX} {st : List Stmt} {ms : List S} : PSs X' st (tSs L F W (.stop :: ms)) := ⟨fun pins s σ H D I ⟨β, h, ρ, S, R, p⟩ => by
  rw [exB_cons] at p; unfold exS at p; exact p.elim⟩
theorem cH_ok (O : CkOk X c) (st : List Stmt) : PSs (X.suite a ((a, oe) :: pn)) st (tSs L F noW (cH c st)) := by
  unfold cH
  split
  · split
    · split
      · rename_i j hj
        obtain ⟨y1, y2, y3, y4⟩ := slotR_ok O hj
        exact s_scons (s_ret (s_var (X := X.suite a ((a, oe) :: pn)) y1 y2 y3 y4)) s_snil
      · exact s_badH
    · split
      · rename_i m v em
        obtain ⟨r1, r2⟩ := cstR_ok (X := X.suite a ((a, oe) :: pn)) (L := L) (F := F) (W := noW) em
        exact s_scons (s_ret r1) s_snil
      · exact s_badH
  · exact s_badH
end
theorem s_badB {X : Cx} {L : Lk} {F : Fns} {W : WX} {st : List Stmt} {ms : List S} : PSs X st (tSs L F W (.stop :: ms)) := ⟨fun pins s σ H D I ⟨β, h, ρ, S, R, p⟩ => by
  rw [exB_cons] at p; unfold exS at p; exact p.elim⟩
theorem s_step {X : Cx} {L : Lk} {F : Fns} {W : WX} {lv n : Nat} {c : CK} (A : SAll g F lv n) (O : CkOk X c) (K : Bdy X) (G : Gd X L W (lv + 2)) (T : Fx X L F g (lv + 1)) (st : Stmt) : PS X st (tS L F W (cS g (n + 1) c st)) := by
  have C := c_all F g (lv + 1) n
  have ih := fun e => C.e X L W c O G T e
  unfold cS
  split
  · exact s_doc
  · split
    · rename_i h; exact s_expr h (ih _)
    · exact s_stop
  · exact s_ret (ih _)
  · exact s_retN
  · exact s_if (C.t X L W c O G T _) (A.b X L W c O K G T _) (A.b X L W c O K G T _)
  · rename_i x py e spos
    split
    · rename_i i hi
      split
      · rename_i hn
        exact s_set G.nd (slotW_ok O hi) (sw_no hn) (ih _)
      · split
        · rename_i elt tg iter ifs scope pos hnc
          split
          · rename_i hs
            have sx := slotW_ok O hi
            rcases C.cc X L W c O G T elt tg iter ifs scope with h | ⟨new, me, t, w, it, mifs, own, h, h1, h2, h3, h4, h5, h6, h7, h8⟩
            · rw [h]
              refine ⟨fun pins s σ H D I ⟨β, h', ρ, S, R, p⟩ => ?_⟩
              unfold exS evE at p
              exact p.elim
            · rw [h]
              have hl : X.env.scope.names.lookup x = some .local := by
                unfold swB at hs
                simp only [Bool.and_eq_true, beq_iff_eq] at hs
                rw [O.sc]; exact hs.1.1
              refine s_setLc G.calm G.nd h1 h2 h3 sx.at_ hl ?_ h4 h5 h6 h7 h8
              rw [swB_eq K.kind, O.sc, hs]
          · rename_i hs
            refine s_set G.nd (slotW_ok O hi) ?_ (ih _)
            rw [swB_eq K.kind, O.sc]
            rw [Bool.not_eq_true] at hs
            rw [hs]
        · exact s_stop
    · exact s_stop
  · split
    · rename_i is his
      split
      · rename_i hn
        exact s_setT G.hK G.calm G.nd (slotsW_ok O his) hn (ih _)
      · exact s_stop
    · exact s_stop
  · split
    · rename_i i o hi ho
      exact s_augN G.nd (slotW_ok O hi) (augO_ok ho) (ih _)
    · exact s_stop
  · exact s_whl G.pass (C.t X L W c O G T _) (A.b X L W c O K G T _)
  · split
    · rename_i t ht
      split
      · rename_i hn
        obtain ⟨w1, w2⟩ := C.i X L W c O G T _ _
        exact s_for G.pass G.calm w2 hn w1 (tgOf_ok O G ht) (A.b X L W c O K G T _)
      · exact s_stop
    · exact s_stop
  · split
    · rename_i k hk
      obtain ⟨z1, z2, z3⟩ := excK_ok O T hk
      split
      · rename_i e1
        exact s_raise0 G T.lf z1 z2 z3 (by rw [← T.exn]; exact e1)
      · rename_i e e1
        split
        · rename_i hs
          exact s_raise1 G T.lf z1 z2 z3 (by rw [← T.exn]; exact e1) hs (ih _)
        · exact s_stop
      · rename_i e e1
        split
        · rename_i hs
          exact s_raiseL G T.lf z1 z2 z3 (by rw [← T.exn]; exact e1) hs (ih _)
        · exact s_stop
      · exact s_stop
    · exact s_stop
  · split
    · rename_i k hk
      obtain ⟨z1, z2, z3⟩ := excK_ok O T hk
      exact s_try T.lf G.tk K.stk K.frm z1 z2 z3 (fun W' pn xe tk pa => A.b (X.tr pn xe) L W' c ⟨O.N, O.sc, O.st⟩ ⟨K.kind, K.stk, K.frm⟩ ⟨G.hK, G.calm, G.nd, G.hr, tk, pa⟩ ⟨T.lf, T.fn, T.cls, T.cst, T.blt, T.fld, T.pl, T.kw, T.init, T.isC, T.exn, T.xi, T.val, T.meth, T.prop, T.tab⟩ _) fun a oe pn => cH_ok O _
    · exact s_stop
  · split
    · rename_i k i hk hi
      obtain ⟨z1, z2, z3⟩ := excK_ok O T hk
      obtain ⟨y1, y2, y3, y4⟩ := slotR_ok O hi
      split
      · rename_i q
        simp only [Bool.and_eq_true, beq_iff_eq] at q
        have xi : L.T.xi = true := by rw [← T.xi]; exact q.1
        split
        · rename_i ts last e
          refine s_tryAs T.lf G.tk K.stk K.frm G.nd y1 (by show X.env.scope.names.lookup _ = _; rw [O.sc]; exact q.2) z1 z2 z3 (fun W' pn xe tk pa => A.b (X.tr pn xe) L W' c ⟨O.N, O.sc, O.st⟩ ⟨K.kind, K.stk, K.frm⟩ ⟨G.hK, G.calm, G.nd, G.hr, tk, pa⟩ ⟨T.lf, T.fn, T.cls, T.cst, T.blt, T.fld, T.pl, T.kw, T.init, T.isC, T.exn, T.xi, T.val, T.meth, T.prop, T.tab⟩ _) fun a oe d x pn hz hf =>
            hsOf_ok O G.hK G.hu T xi ⟨y1, y2, y3, y4⟩ hz hf 60 _ _ _ e
        · exact s_stop
      · exact s_stop
    · exact s_stop
  · exact s_pass
  · exact s_brk
  · exact s_cont
  · exact s_stop
theorem b_step {X : Cx} {L : Lk} {F : Fns} {W : WX} {lv n : Nat} {c : CK} (A : SAll g F lv n) (O : CkOk X c) (K : Bdy X) (G : Gd X L W (lv + 2)) (T : Fx X L F g (lv + 1)) (st : List Stmt) : PSs X st (tSs L F W (cB g (n + 1) c st)) := by
  cases st with
  | nil => unfold cB; exact s_snil
  | cons s r => unfold cB; exact s_scons (A.s X L W c O K G T s) (A.b X L W c O K G T r)
theorem s_all (F : Fns) (lv : Nat) : ∀ n, SAll g F lv n
  | 0 => ⟨fun X L W c _ _ _ _ st => by unfold cS; exact s_stop, fun X L W c _ _ _ _ st => by unfold cB; exact s_badB⟩
  | n + 1 => ⟨fun X L W c O K G T st => s_step (s_all F lv n) O K G T st, fun X L W c O K G T st => b_step (s_all F lv n) O K G T st⟩

/-! ### a def -/
/-- the context of a def's names -/
def ckOf (N : List PySem.Str) (sc : Scope) (nl : Bool) : CK := ⟨N, sc, sc.names, nl⟩
/-- a def of the text: its names, its body in MP -/
structure DefM (K : PySem.W.Frag) (L : Lk) (g : GT) (k : Nat) : Prop where
  ex : ∃ (x qual : PySem.Str) (params : Arguments) (body : List Stmt) (scope : Scope) (dvs : List V) (kws : List (PySem.Str × V)) (fd : FuncData) (N ps : List PySem.Str) (nl : Bool) (n : Nat) (m : FD),
    FunD K x qual params body scope dvs kws (L.fa k) fd ∧ FnScope N ps scope ∧ L.T.fns k = some m ∧ m.np = ps.length ∧ m.ns = N.length ∧ m.body = cB g n (ckOf N scope nl) body
theorem start_er {L : Lk} {β : Bt} {H : Hp} {N : List PySem.Str} {vs : List V} {args : List Val} (r : VRs L β H vs args) (hl : args.length ≤ N.length) : ER L β H (L2.start N vs) (args.map some ++ List.replicate (N.length - args.length) none) := by
  refine ⟨?_, fun i x e => ?_⟩
  · unfold L2.start
    simp only [List.length_append, List.length_map, List.length_replicate, r.length]
  · by_cases hi : i < args.length
    · rw [List.getElem?_append_left (by simpa using hi), List.getElem?_map] at e
      obtain ⟨a, ea, e2⟩ := Option.map_eq_some_iff.mp e
      cases e2
      obtain ⟨v, ev, rv⟩ := r.get ea
      refine ⟨v, ?_, rv⟩
      unfold L2.start
      rw [List.getElem?_append_left (by rw [List.length_map, r.length]; exact hi), List.getElem?_map, ev]
      rfl
    · rw [List.getElem?_append_right (by simpa using hi), List.getElem?_replicate] at e
      split at e <;> cases e
theorem fn_step {P : Program} {w : World} {K : PySem.W.Frag} {mg : PySem.Str → Option Value} {base : PySem.Heap} {L : Lk} {d lv k : Nat} {x qual : PySem.Str} {params : Arguments} {body : List Stmt} {scope : Scope} {dvs : List V} {kws : List (PySem.Str × V)} {fd : FuncData} {N ps : List PySem.Str} {nl : Bool} {n : Nat} {m : FD}
    (hK : K = L.K) (D : FunD K x qual params body scope dvs kws (L.fa k) fd) (Sc : FnScope N ps scope) (hf : L.T.fns k = some m) (hnp : m.np = ps.length) (hns : m.ns = N.length) (hb : m.body = cB g n (ckOf N scope nl) body)
    (T : ∀ (X : Cx), X.prog = P → X.w = w → X.K = K → X.mg = mg → X.base = base → Fx X L (callF L.T d) g (lv + 1)) :
    FnOk P w K mg base (L2.CX P w) (lv + 3) (L.fa k) fd ps (spF L (callF L.T (d + 1)) k) := by
  have hlen : ∀ {pv : Addr → Prop} {β : Bt} {H : Hp} {h : Heap} {args : List Val} {Q : VK} {E : XK}, Pst (L.pvs pv) β H (callF L.T (d + 1) k args h) Q E → args.length = ps.length := fun {pv β H h args Q E} p => by
    simp only [callF, hf] at p
    split at p
    · rename_i hl; rw [hl, hnp]
    · exact p.elim
  have hNp : ps.length ≤ N.length := by
    have := congrArg List.length Sc.pre
    rw [List.length_take] at this
    omega
  refine D.ok Sc (fun vs H Q E ⟨pv, β, h, args, S, r, p⟩ => by rw [r.length]; exact hlen p) fun cdv A outer s H vs Q E hr ⟨pv, β, h, args, S, r, p⟩ => ?_
  have hal := hlen p
  let X := cxOf (L2.CX P w) P w K mg base N qual scope (L.fa k) cdv A outer s H E
  have O : CkOk X (ckOf N scope nl) := ⟨rfl, rfl, fun y hy => ⟨hy, .inl rfl⟩⟩
  have G : Gd X (L.pvs pv) (fun cls d _ H => E cls d H) (lv + 2) := ⟨hK, rfl, Sc.nd, hr, takes_of (X := X) rfl rfl rfl rfl, passes_of (X := X) rfl⟩
  have TX : Fx X (L.pvs pv) (callF L.T d) g (lv + 1) := (T X rfl rfl rfl rfl rfl).pvs pv
  refine ⟨_, (s_all (callF L.T d) lv n).b X (L.pvs pv) _ _ O ⟨Sc.kind, rfl, rfl⟩ G TX body, β, h, args.map some ++ List.replicate (N.length - args.length) none, S, start_er r (by rw [hal]; exact hNp), ?_⟩
  rw [callF_succ L.T d k args h m hf (by rw [hal, hnp]), hb, hns, hnp, ← hal] at p
  have p : Pst (L.pvs pv) β H (retO (exB L.T (callF L.T d) (cB g n (ckOf N scope nl) body) (args.map some ++ List.replicate (N.length - args.length) none) h)) Q E := by
    split at p
    · exact p.folded S
    · exact p
  cases eo : exB L.T (callF L.T d) (cB g n (ckOf N scope nl) body) (args.map some ++ List.replicate (N.length - args.length) none) h with
  | nx ρ h' => rw [eo] at p; exact fun σ' β' H' x s _ => p _ β' H' x s .non
  | rt v h' => rw [eo] at p; exact p
  | bk ρ h' => rw [eo] at p; exact p.elim
  | ct ρ h' => rw [eo] at p; exact p.elim
  | exc x ρ h' => rw [eo] at p; exact fun c d σ' β' H' x s _ e => p c d β' H' x s e
  | bad => rw [eo] at p; exact p.elim
end MP

/-! Mp3: a whole text -/
namespace MP
open PySem PySem.Spec PyProof.Rows L2

/-- a def of the text: where it stands, its slots, its parameters, how it may be called -/
structure DM where
  dd : He.DefD
  N : List PySem.Str
  ps : List PySem.Str
  nl : Bool
  plain : Bool
  /-- what it lays is let go at its end -/
  fz : Bool
  kwb : List ((Nat × List PySem.Str) × List Bd)
abbrev DM.FunP (K : PySem.W.Frag) (d : DM) (fd : FuncData) : Prop := FunD K d.dd.name d.dd.qual d.dd.params d.dd.body d.dd.scope (d.dd.dvs K) (d.dd.kws K) (He.fAd K d.dd.at_) fd
/-- how its arguments are bound -/
structure DM.Ok (d : DM) : Prop where
  plain : d.plain = true → ∀ K fd, d.FunP K fd → Binds K fd d.ps []
  kw : ∀ n ks b, d.kwb.lookup (n, ks) = some b → ∀ K fd, d.FunP K fd → ∃ g gV, KBn K fd d.ps n ks g gV ∧
    ∀ (L : Lk) β H h vs zs args us, Sim L β H h → VRs L β H (vs ++ zs) args → vs.length = n → zs.length = ks.length → bindBd args b = some us → VRs L β H (gV vs zs) us
  sc : C8.scC d.N d.ps d.dd.scope = true
def AllD : List DM → Prop
  | [] => True
  | d :: r => d.Ok ∧ AllD r
theorem AllD.at : ∀ {l : List DM} {k : Nat} {d : DM}, AllD l → l[k]? = some d → d.Ok
  | [], _, _, _, e => by simp at e
  | d :: r, 0, x, h, e => by simp at e; subst e; exact h.1
  | d :: r, k + 1, x, h, e => AllD.at (l := r) (k := k) h.2 (by simpa using e)
/-- names that are numbers -/
def nmOf (l : List PySem.Str) (i : Nat) : PySem.Str := match l[i]? with
  | some s => s
  | none => ⟨#[0, i]⟩
theorem nmOf_inj {l : List PySem.Str} (h : l.Nodup) (h2 : l.all (fun s => s.cps[0]? != some 0) = true) (i j : Nat) (e : nmOf l i = nmOf l j) : i = j := by
  unfold nmOf at e
  have n0 : ∀ {k : Nat} {s : PySem.Str} {m : Nat}, l[k]? = some s → s ≠ ⟨#[0, m]⟩ := fun {k s m} q z => by
    have := List.all_eq_true.mp h2 s (List.mem_of_getElem? q)
    rw [z] at this
    simp at this
  cases e1 : l[i]? with
  | some s =>
    cases e2 : l[j]? with
    | some t =>
      rw [e1, e2] at e
      have e : s = t := e
      subst e
      obtain ⟨hi, ei⟩ := List.getElem?_eq_some_iff.mp e1
      obtain ⟨hj, ej⟩ := List.getElem?_eq_some_iff.mp e2
      have pw := List.pairwise_iff_getElem.mp h
      rcases Nat.lt_trichotomy i j with q | q | q
      · exact absurd (ei.trans ej.symm) (pw i j hi hj q)
      · exact q
      · exact absurd (ej.trans ei.symm) (pw j i hj hi q)
    | none => rw [e1, e2] at e; exact absurd e (n0 e1)
  | none =>
    cases e2 : l[j]? with
    | some t => rw [e1, e2] at e; exact absurd e.symm (n0 e2)
    | none =>
      rw [e1, e2] at e
      have e : (⟨#[0, i]⟩ : PySem.Str) = ⟨#[0, j]⟩ := e
      simpa using e
def fldOf : Nat → List PySem.Str → List (PySem.Str × Nat)
  | _, [] => []
  | i, x :: r => (x, i) :: fldOf (i + 1) r
theorem fldOf_at : ∀ {l : List PySem.Str} {i j : Nat} {x : PySem.Str}, (fldOf i l).lookup x = some j → i ≤ j ∧ l[j - i]? = some x
  | [], _, _, _, h => by cases h
  | y :: r, i, j, x, h => by
    simp only [fldOf, List.lookup_cons] at h
    split at h
    · rename_i e
      cases h
      simp only [beq_iff_eq] at e
      subst e
      exact ⟨Nat.le_refl _, by simp⟩
    · obtain ⟨a, b⟩ := fldOf_at h
      refine ⟨by omega, ?_⟩
      have : j - i = (j - (i + 1)) + 1 := by omega
      rw [this]
      simpa using b

structure TX where
  dm : List DM
  gl : List (PySem.Str × GV)
  fld : List PySem.Str
  blt : List PySem.Str
  cls : List PySem.Str
  init : Nat → Option Nat
  isC : Nat → Bool
  meth : Nat → Nat → Option Nat
  prop : Nat → Nat → Option Nat
  fo : Nat → Nat → Bool
  sub : Nat → Nat → Option Bool
  exn : Nat → Option Bool
  xi : Bool
  val : Nat → Bool
def TX.g (t : TX) : GT where
  gl := t.gl
  fld := fldOf 0 t.fld
  pl := fun k => (t.dm[k]?).any (·.plain)
  kw := fun k n ks => (t.dm[k]?).bind fun d => d.kwb.lookup (n, ks)
  init := t.init
  isC := t.isC
  exn := t.exn
  xi := t.xi
  blt := t.blt
/-- a def's body -/
def TX.fd (t : TX) (d : DM) : FD := ⟨d.ps.length, d.N.length, cB t.g 300 (ckOf d.N d.dd.scope d.nl) d.dd.body⟩
def TX.T (t : TX) : Tb where
  fns := fun k => (t.dm[k]?).map t.fd
  meth := t.meth
  prop := t.prop
  init := t.init
  isC := t.isC
  val := t.val
  fo := t.fo
  sub := t.sub
  exn := t.exn
  xi := t.xi
  fz := fun k => (t.dm[k]?).any (·.fz)
def TX.L (t : TX) (K : PySem.W.Frag) : Lk where
  K := K
  fa := fun k => match t.dm[k]? with
    | some d => He.fAd K d.dd.at_
    | none => 0
  ca := fun c => match t.cls[c]? with
    | some x => He.ga K x
    | none => 0
  nm := nmOf t.fld
  T := t.T
  pv := fun _ => False
/-- what a global stands for -/
def GvOk (t : TX) (K : PySem.W.Frag) (mg : PySem.Str → Option Value) (w : World) (x : PySem.Str) : GV → Prop
  | .fn k => mg x = some (.ref ((t.L K).fa k))
  | .cls c => mg x = some (.ref ((t.L K).ca c))
  | .cst v => ∃ u, mg x = some u ∧ ∀ pv, Cst ((t.L K).pvs pv) u v
  | .tab rows => ∃ d, mg x = some (.ref d) ∧ TabAt K w d (t.L K).fa rows
def AllG (t : TX) (K : PySem.W.Frag) (mg : PySem.Str → Option Value) (w : World) : List (PySem.Str × GV) → Prop
  | [] => True
  | (x, v) :: r => GvOk t K mg w x v ∧ AllG t K mg w r
theorem AllG.at {t : TX} {K : PySem.W.Frag} {mg : PySem.Str → Option Value} {w : World} : ∀ {l : List (PySem.Str × GV)} {x : PySem.Str} {v : GV}, AllG t K mg w l → l.lookup x = some v → GvOk t K mg w x v
  | [], _, _, _, e => by cases e
  | (y, u) :: r, x, v, h, e => by
    rw [List.lookup_cons] at e
    split at e
    · rename_i q
      cases e
      simp only [beq_iff_eq] at q
      subst q
      exact h.1
    · exact AllG.at h.2 e
def AllB (mg : PySem.Str → Option Value) : List PySem.Str → Prop
  | [] => True
  | x :: r => mg x = none ∧ AllB mg r
theorem AllB.at {mg : PySem.Str → Option Value} : ∀ {l : List PySem.Str} {x : PySem.Str}, AllB mg l → l.contains x = true → mg x = none
  | [], _, _, e => by cases e
  | y :: r, x, h, e => by
    rw [List.contains_cons, Bool.or_eq_true] at e
    rcases e with e | e
    · simp only [beq_iff_eq] at e
      subst e
      exact h.1
    · exact AllB.at h.2 e
structure TxOk (t : TX) (K : PySem.W.Frag) (mg : PySem.Str → Option Value) (w : World) : Prop where
  lf : Lf K (t.L K)
  gl : AllG t K mg w t.gl
  blt : AllB mg t.blt
  dm : AllD t.dm
  fd : ∀ (k : Nat) (d : DM), t.dm[k]? = some d → ∃ fd, d.FunP K fd
  val : ∀ k, t.val k = true → t.g.pl k = true
  meth : ∀ c m k, t.isC c = true → t.meth c m = some k → t.g.pl k = true
  prop : ∀ c m k, t.isC c = true → t.prop c m = some k → t.g.pl k = true

theorem cst_int {L : Lk} {i : Int} {u : Value} {tk : Tok} (e : u = .int i tk) : Cst L u (.int i) := ⟨.int i, ⟨tk, e⟩, fun _ _ _ _ => .int i⟩
theorem cst_str {L : Lk} {z : PySem.Str} {u : Value} {tk : Tok} (e : u = .str z tk) : Cst L u (.str z.cps.toList) := ⟨.str z, ⟨tk, e⟩, fun β H _ _ => by
  have := VR.str (L := L) (β := β) (H := H) z.cps.toList
  rwa [show (⟨z.cps.toList.toArray⟩ : PySem.Str) = z by simp] at this⟩

theorem tx_fn {t : TX} {P : Program} {w : World} {K : PySem.W.Frag} {mg : PySem.Str → Option Value} {base : PySem.Heap} (O : TxOk t K mg w) (d : Nat)
    (ih : ∀ (X : Cx), X.prog = P → X.w = w → X.K = K → X.mg = mg → X.base = base → Fx X (t.L K) (callF t.T d) t.g (2 * d + 1)) (k : Nat) (m : DM) (hm : t.dm[k]? = some m) :
    ∃ fd, m.FunP K fd ∧ FnOk P w K mg base (L2.CX P w) (2 * d + 3) ((t.L K).fa k) fd m.ps (spF (t.L K) (callF t.T (d + 1)) k) := by
  obtain ⟨fd, F⟩ := O.fd k m hm
  have hfa : (t.L K).fa k = He.fAd K m.dd.at_ := by show (match t.dm[k]? with | some d => He.fAd K d.dd.at_ | none => 0) = _; rw [hm]
  refine ⟨fd, F, ?_⟩
  have F' : FunD K m.dd.name m.dd.qual m.dd.params m.dd.body m.dd.scope (m.dd.dvs K) (m.dd.kws K) ((t.L K).fa k) fd := by rw [hfa]; exact F
  exact fn_step (g := t.g) (L := t.L K) (d := d) (lv := 2 * d) rfl F' (C8.fnScope_by (O.dm.at hm).sc) (m := t.fd m) (by show (t.dm[k]?).map t.fd = _; rw [hm]; rfl) rfl rfl rfl ih
theorem tx_fx {t : TX} {K : PySem.W.Frag} {mg : PySem.Str → Option Value} {w : World} (O : TxOk t K mg w) {X : Cx} {F : Fns} {lv : Nat} (eW : X.w = w) (eK : X.K = K) (eM : X.mg = mg)
    (H : ∀ (k : Nat) (m : DM), t.dm[k]? = some m → ∃ fd, m.FunP K fd ∧ FnOk X.prog X.w X.K X.mg X.base (L2.CX X.prog X.w) lv ((t.L K).fa k) fd m.ps (spF (t.L K) F k)) : Fx X (t.L K) F t.g lv := by
  subst eW eK eM
  have kp : ∀ {k : Nat} {m : DM} {fd : FuncData}, t.dm[k]? = some m → m.FunP X.K fd → PySem.W.keepIn X.K (.ref ((t.L X.K).fa k)) = true := fun {k m fd} hm F => by
    have hfa : (t.L X.K).fa k = He.fAd X.K m.dd.at_ := by show (match t.dm[k]? with | some d => He.fAd X.K d.dd.at_ | none => 0) = _; rw [hm]
    rw [hfa]; exact F.kp
  refine ⟨O.lf, fun x k e => O.gl.at e, fun x k e => O.gl.at e, fun x v e => O.gl.at e, fun x e => O.blt.at e, fun x i e => ?_, fun k e => ?_, fun k n ks b e => ?_, fun _ => rfl, fun _ => rfl, fun _ => rfl, rfl, O.val, O.meth, O.prop, fun x r e => O.gl.at e⟩
  · obtain ⟨_, h⟩ := fldOf_at (show (fldOf 0 t.fld).lookup x = some i from e)
    show nmOf t.fld i = x
    unfold nmOf
    rw [Nat.sub_zero] at h
    rw [h]
  · have e : (t.dm[k]?).any (·.plain) = true := e
    cases hm : t.dm[k]? with
    | none => rw [hm] at e; cases e
    | some m =>
      rw [hm] at e
      obtain ⟨fd, F1, F2⟩ := H k m hm
      exact ⟨fd, m.ps, F2, (O.dm.at hm).plain e _ _ F1, kp hm F1⟩
  · have e : ((t.dm[k]?).bind fun d => d.kwb.lookup (n, ks)) = some b := e
    cases hm : t.dm[k]? with
    | none => rw [hm] at e; cases e
    | some m =>
      rw [hm] at e
      obtain ⟨fd, F1, F2⟩ := H k m hm
      obtain ⟨gg, gV, h1, h2⟩ := (O.dm.at hm).kw n ks b e _ _ F1
      exact ⟨fd, m.ps, gg, gV, F2, h1, kp hm F1, fun pv β H h vs zs args us S r l1 l2 eb => h2 _ β H h vs zs args us S r l1 l2 eb⟩
theorem tx_all {t : TX} {P : Program} {w : World} {K : PySem.W.Frag} {mg : PySem.Str → Option Value} {base : PySem.Heap} (O : TxOk t K mg w) : ∀ (d : Nat) (X : Cx), X.prog = P → X.w = w → X.K = K → X.mg = mg → X.base = base → Fx X (t.L K) (callF t.T d) t.g (2 * d + 1)
  | 0, X, e1, e2, e3, e4, e5 => tx_fx O e2 e3 e4 fun k m hm => by
    obtain ⟨fd, F⟩ := O.fd k m hm
    exact ⟨fd, F, fun vs H Q E ⟨pv, β, h, args, S, r, p⟩ => p.elim, fun A outer s H args us vs Q E _ _ _ _ ⟨pv, β, h, args', S, r, p⟩ => p.elim⟩
  | d + 1, X, e1, e2, e3, e4, e5 => tx_fx O e2 e3 e4 fun k m hm => by
    subst e1 e2 e3 e4 e5
    exact tx_fn (P := X.prog) (w := X.w) (base := X.base) O d (tx_all O d) k m hm
/-- a law's end: what its def gives -/
theorem tx_law {t : TX} {P : Program} {w : World} {K : PySem.W.Frag} {mg : PySem.Str → Option Value} {base : PySem.Heap} (O : TxOk t K mg w) (d k : Nat) (m : DM) (hm : t.dm[k]? = some m) :
    ∃ fd, m.FunP K fd ∧ FnOk P w K mg base (L2.CX P w) (2 * d + 3) (He.fAd K m.dd.at_) fd m.ps (spF (t.L K) (callF t.T (d + 1)) k) := by
  have hfa : (t.L K).fa k = He.fAd K m.dd.at_ := by show (match t.dm[k]? with | some d => He.fAd K d.dd.at_ | none => 0) = _; rw [hm]
  rw [← hfa]
  exact tx_fn O d (tx_all O d) k m hm
theorem law_sp {t : TX} {K : PySem.W.Frag} {F : Fns} {k : Nat} {H : Hp} {a : Addr} {ns : List Int} (hS : SqL K H a (ns.map V.int)) (hl : ∃ h', F k [.arr (ns.map Val.int)] Heap.empty = .ok (.bl true) h') :
    spF (t.L K) F k [.ref a] H (fun v _ => v = .bl true) fun _ _ _ => False := by
  obtain ⟨h', e⟩ := hl
  have vs : ∀ {β : Bt} (ns : List Int), VRs ((t.L K).pvs fun _ => False) β H (ns.map V.int) (ns.map Val.int) := fun {β} ns => by
    induction ns with
    | nil => exact .nil
    | cons n ns ih => exact .cons (.int n) ih
  refine ⟨fun _ => False, fun _ => none, Heap.empty, [.arr (ns.map Val.int)], ⟨(fun r c q => by cases q), (fun r a q => by cases q), (fun r q a h1 _ => by cases h1), fun a (q : False) => q.elim⟩, .cons (.arr ?_ (vs ns)) .nil, ?_⟩
  · rcases hS with (hS | ⟨o, hS⟩) | hS
    · exact .inl ⟨hS, fun z => z, fun r q => by cases q⟩
    · exact .inr (.inl ⟨o, hS⟩)
    · exact .inr (.inr hS)
  · rw [e]
    intro u β' H' _ _ r
    cases r
    rfl
/-! ### one keyword-only parameter with its default: how the values lie -/
theorem kw_default {L : Lk} {β : Bt} {H : Hp} {v : V} {x : Val} (d : VR L β H v x) {vs zs : List V} {args us : List Val} (m : Nat) (r : VRs L β H (vs ++ zs) args) (l1 : vs.length = m) (l2 : zs.length = 0) (e : bindBd args ((List.range m).map Bd.pos ++ [.dfl x]) = some us) : VRs L β H (vs ++ [v]) us := by
  have hz : zs = [] := List.length_eq_zero_iff.mp l2
  subst hz
  rw [List.append_nil] at r
  have la : args.length = m := by rw [← r.length, l1]
  have key : ∀ (k : Nat) (us : List Val), k ≤ m → bindBd args (((List.range' (m - k) k)).map Bd.pos ++ [.dfl x]) = some us → us = args.drop (m - k) ++ [x] := by
    intro k
    induction k with
    | zero =>
      intro us _ e
      simp only [List.range'_zero, List.map_nil, List.nil_append, bindBd, Option.map_some] at e
      cases e
      rw [List.drop_of_length_le (by omega)]; rfl
    | succ k ih =>
      intro us hk e
      have hlt : m - (k + 1) < args.length := by omega
      rw [List.range'_succ] at e
      simp only [List.map_cons, List.cons_append, bindBd] at e
      rw [List.getElem?_eq_getElem hlt] at e
      have h1 : m - (k + 1) + 1 = m - k := by omega
      rw [h1] at e
      split at e
      · rename_i a b c e1 e2
        cases e1
        cases e
        rw [ih _ (by omega) e2, List.drop_eq_getElem_cons hlt, h1]
        rfl
      · cases e
  have h := key m us (Nat.le_refl _) (by rw [Nat.sub_self, ← List.range_eq_range']; exact e)
  rw [Nat.sub_self, List.drop_zero] at h
  subst h
  exact r.append (.cons d .nil)
theorem kw_given {L : Lk} {β : Bt} {H : Hp} {vs zs : List V} {args us : List Val} (m : Nat) (r : VRs L β H (vs ++ zs) args) (l1 : vs.length = m) (l2 : zs.length = 1) (e : bindBd args ((List.range (m + 1)).map Bd.pos) = some us) : VRs L β H (vs ++ zs) us := by
  have la : args.length = m + 1 := by rw [← r.length, List.length_append, l1, l2]
  have key : ∀ (k : Nat) (us : List Val), k ≤ m + 1 → bindBd args (((List.range' (m + 1 - k) k)).map Bd.pos) = some us → us = args.drop (m + 1 - k) := by
    intro k
    induction k with
    | zero =>
      intro us _ e
      simp only [List.range'_zero, List.map_nil, bindBd] at e
      cases e
      rw [List.drop_of_length_le (by omega)]
    | succ k ih =>
      intro us hk e
      have hlt : m + 1 - (k + 1) < args.length := by omega
      rw [List.range'_succ] at e
      simp only [List.map_cons, bindBd] at e
      rw [List.getElem?_eq_getElem hlt] at e
      have h1 : m + 1 - (k + 1) + 1 = m + 1 - k := by omega
      rw [h1] at e
      split at e
      · rename_i a b c e1 e2
        cases e1
        cases e
        rw [ih _ (by omega) e2, List.drop_eq_getElem_cons hlt, h1]
      · cases e
  have h := key (m + 1) us (Nat.le_refl _) (by rw [Nat.sub_self, ← List.range_eq_range']; exact e)
  rw [Nat.sub_self, List.drop_zero] at h
  subst h
  exact r
end MP

/-! Mp3b: what the head must tell besides: exceptions -/
namespace MP
open PySem PySem.Spec PyProof.Rows L2

/-- a further fact of the written part -/
inductive Fm where
  /-- an exception class with an own __init__ that keeps its argument as line -/
  | oex (x : PySem.Str)
  /-- an exception class whose instances are looked at -/
  | exi (x : PySem.Str)
  | exk (x y : PySem.Str) (b : Bool)
  /-- a written dict of texts, its values tuples of defs -/
  | tab (x : PySem.Str) (rows : List (List Nat × List Nat)) (ats : List (PySem.Str × Option PySem.Str))
def oexB (K : PySem.W.Frag) (C : Addr) : Bool := match K.lookup C with
  | some ⟨.type t, _, .cls ⟨_, _, .ref C' :: bm, _, _, hd, _, _, _, _, dl⟩, ⟨[_, _, _, _, some (.builtin n), _]⟩⟩ => decide (t = "type") && (decide (C' = C) && (PySem.HandSPX.refsVE bm && (hd && (!dl && decide (n = "ValueError.__new__")))))
  | _ => false
theorem oexB_ok {K : PySem.W.Frag} {C : Addr} (h : oexB K C = true) : ∃ nm q N bs bm sn sub ab col dd k0 k1 k2 k3 k5, K.lookup C = some (excClassObj nm q C N bs bm true sn sub ab col dd k0 k1 k2 k3 k5 "ValueError.__new__") ∧ PySem.HandSPX.refsVE bm = true := by
  unfold oexB at h
  split at h
  · rename_i t dd nm bs C' bm N q hd sn sub ab col dl k0 k1 k2 k3 n k5 e
    simp only [Bool.and_eq_true, decide_eq_true_eq, Bool.not_eq_true'] at h
    obtain ⟨h1, h2, h3, h4, h5, h6⟩ := h
    subst h1 h2 h4 h5 h6
    exact ⟨nm, q, N, bs, bm, sn, sub, ab, col, dd, k0, k1, k2, k3, k5, e, h3⟩
  · cases h
/-- the address of a def by its place in a list -/
def fa0 (K : PySem.W.Frag) (ats : List (PySem.Str × Option PySem.Str)) (k : Nat) : Addr := match ats[k]? with
  | some a => He.fAd K a
  | none => 0
def keyB (v : Value) (s : List Nat) : Bool := match v with
  | .str x _ => decide (x.cps.toList = s)
  | _ => false
def tupAt (K : PySem.W.Frag) (p : Addr) (vs : List V) : Bool := match K.lookup p with
  | some ⟨.type c, _, .seq its _, _⟩ => decide (c = "tuple") && (decide (its.size ≤ sizeLine) && He.relAll vs its.toList)
  | _ => false
def rowsB (K : PySem.W.Frag) (fa : Nat → Addr) : List DictEntry → List (List Nat × List Nat) → Bool
  | [], [] => true
  | e :: es, (s, ks) :: r => keyB e.key s && ((match e.val with
      | .ref p => tupAt K p (ks.map fun k => V.ref (fa k))
      | _ => false) && rowsB K fa es r)
  | _, _ => false
def tabB (K : PySem.W.Frag) (fa : Nat → Addr) (d : Addr) (rows : List (List Nat × List Nat)) : Bool := match K.lookup d with
  | some ⟨_, _, .dict es _, _⟩ => rowsB K fa es.toList rows
  | _ => false
theorem tupAt_ok {K : PySem.W.Frag} {p : Addr} {vs : List V} (h : tupAt K p vs = true) (H : Hp) : SqT K H p vs := by
  unfold tupAt at h
  cases q : K.lookup p with
  | none =>
    rw [q] at h
    cases h
  | some o =>
    obtain ⟨oc, od, dt, osl⟩ := o
    rw [q] at h
    cases oc with
    | type c =>
      cases dt with
      | seq its n =>
        simp only [Bool.and_eq_true, decide_eq_true_eq] at h
        obtain ⟨h1, h3, h4⟩ := h
        exact .inr ⟨_, its, n, q, congrArg Value.type h1, rfl, h3, He.relAll_ok h4⟩
      | _ => cases h
    | _ => cases dt <;> cases h
theorem keyB_ok {v : Value} {s : List Nat} (h : keyB v s = true) : ∃ t, v = .str ⟨s.toArray⟩ t := by
  unfold keyB at h
  split at h
  · rename_i x t
    simp only [decide_eq_true_eq] at h
    subst h
    exact ⟨t, by simp⟩
  · cases h
theorem rowsB_ok {K : PySem.W.Frag} {fa : Nat → Addr} : ∀ {es : List DictEntry} {rows : List (List Nat × List Nat)}, rowsB K fa es rows = true → es.any (·.refKey) = false ∧ ∀ s, match rows.lookup s with
    | some ks => ∃ e p, es.find? (·.key.isStr ⟨s.toArray⟩) = some e ∧ e.val = .ref p ∧ ∀ H, SqT K H p (ks.map fun k => V.ref (fa k))
    | none => es.find? (·.key.isStr ⟨s.toArray⟩) = none
  | [], [], _ => ⟨rfl, fun s => rfl⟩
  | e :: es, (z, ks) :: r, h => by
    unfold rowsB at h
    simp only [Bool.and_eq_true] at h
    obtain ⟨h1, h2, h3⟩ := h
    obtain ⟨t, ek⟩ := keyB_ok h1
    obtain ⟨i1, i2⟩ := rowsB_ok h3
    refine ⟨?_, fun s => ?_⟩
    · rw [List.any_cons, i1]
      simp [DictEntry.refKey, ek]
    · rw [List.lookup_cons, List.find?_cons]
      by_cases q : s = z
      · subst q
        have e1 : (e.key.isStr ⟨s.toArray⟩) = true := by rw [ek]; simp [Value.isStr]
        rw [e1]
        simp only [beq_self_eq_true]
        split at h2
        · rename_i p ev
          exact ⟨e, p, rfl, ev, fun H => tupAt_ok h2 H⟩
        · cases h2
      · have e1 : (e.key.isStr ⟨s.toArray⟩) = false := by rw [ek]; simp [Value.isStr]; exact fun z => q z.symm
        have e2 : (s == z) = false := by rw [beq_eq_false_iff_ne]; exact q
        rw [e1, e2]
        exact i2 s
theorem tabB_ok {K : PySem.W.Frag} {w : World} {fa : Nat → Addr} {d : Addr} {rows : List (List Nat × List Nat)} (h : tabB K fa d rows = true) (D : ∃ es n, KDict K w d es n) : TabAt K w d fa rows := by
  obtain ⟨es, n, D⟩ := D
  refine ⟨es, n, D, fun s => ?_⟩
  unfold tabB at h
  rw [D.at_] at h
  obtain ⟨h1, h2⟩ := rowsB_ok (show rowsB K fa es.toList rows = true from h)
  have h3 := h2 s
  have en : PySem.W.nsIn K d ⟨s.toArray⟩ = (match es.toList.find? (·.key.isStr ⟨s.toArray⟩) with
      | some e => some (some e.val)
      | none => if es.toList.any (·.refKey) then none else some none) := by
    unfold PySem.W.nsIn
    rw [D.at_]
    rfl
  rw [en]
  cases q : rows.lookup s with
  | some ks =>
    rw [q] at h3
    obtain ⟨e, p, e1, e2, e3⟩ := h3
    exact ⟨p, by rw [e1]; simp only [e2], e3⟩
  | none =>
    rw [q] at h3
    dsimp only at h3 ⊢
    rw [h3, h1]
    rfl
def eqV (a b : Option (Option Value)) : Bool := decide (a = b)
def eqW (a b : Option Value) : Bool := decide (a = b)
def eqB (a b : Option Bool) : Bool := decide (a = b)
def Fm.ok (K : PySem.W.Frag) : Fm → Bool
  | .oex x => oexB K (He.ga K x) && (eqV (PySem.W.findIn K (.ref (He.ga K x)) "__setattr__") (some (some (.builtin "object.__setattr__"))) && (eqB (PySem.W.subIn K (.ref (He.ga K x)) (.type "BaseException")) (some true) && (eqW (PySem.W.typeIn K (.ref (He.ga K x))) (some (.type "type")) &&
      (PySem.W.keepIn K (.ref (He.ga K x)) && (eqV (PySem.W.findIn K (.ref (He.ga K x)) "line") (some none) && (eqV (PySem.W.findIn K (.ref (He.ga K x)) "__init__") (some (some (.ref (He.ma K (He.ga K x) "__init__")))) && eqW (PySem.W.typeIn K (.ref (He.ma K (He.ga K x) "__init__"))) (some (.type "function"))))))))
  | .exi x => (PySem.W.clsIn K (He.ga K x)).isSome && (eqV (PySem.W.findIn K (.ref (He.ga K x)) "__getattribute__") (some (some (.builtin "BaseException.__getattribute__"))) && (eqV (PySem.W.findIn K (.ref (He.ga K x)) "__getattr__") (some none) && (eqB (PySem.W.subIn K (.ref (He.ga K x)) (.type "BaseException")) (some true) &&
      (PySem.W.hasDictIn K (He.ga K x) && (eqV (PySem.W.findIn K (.ref (He.ga K x)) "__class__") (some (some (.builtin "object.__class__"))) && (eqV (PySem.W.specialIn K (.builtin "object.__class__") "__get__") (some (some (.builtin "getset_descriptor.__get__"))) &&
      (eqB (PySem.W.takesIn K (.builtin "object.__class__")) (some true) && eqB (PySem.W.mroIn K (He.ga K x) (.type "object")) (some true))))))))
  | .exk x y b => eqB (PySem.W.kitOne K (.ref (He.ga K x)) (.ref (He.ga K y))) (some b)
  | .tab x rows ats => tabB K (fa0 K ats) (He.ga K x) rows
section
variable {K : PySem.W.Frag}
theorem oex_ok {x : PySem.Str} (c : (Fm.oex x).ok K = true) : OexC K (He.ga K x) ∧ PySem.W.findIn K (.ref (He.ga K x)) "line" = some none ∧ PySem.W.findIn K (.ref (He.ga K x)) "__init__" = some (some (.ref (He.fAd K (x, some "__init__")))) ∧
    PySem.W.typeIn K (.ref (He.fAd K (x, some "__init__"))) = some (.type "function") := by
  unfold Fm.ok at c
  simp only [Bool.and_eq_true] at c
  obtain ⟨c1, c2, c3, c4, c5, c6, c7, c8⟩ := c
  exact ⟨⟨oexB_ok c1, of_decide_eq_true c2, of_decide_eq_true c3, of_decide_eq_true c4, c5⟩, of_decide_eq_true c6, of_decide_eq_true c7, of_decide_eq_true c8⟩
theorem exi_ok {x : PySem.Str} (c : (Fm.exi x).ok K = true) : ExI K (He.ga K x) := by
  unfold Fm.ok at c
  simp only [Bool.and_eq_true] at c
  obtain ⟨c1, c2, c3, c4, c5, c6, c7, c8, c9⟩ := c
  exact ⟨c1, of_decide_eq_true c2, of_decide_eq_true c3, of_decide_eq_true c4, c5, of_decide_eq_true c6, of_decide_eq_true c7, of_decide_eq_true c8, of_decide_eq_true c9⟩
theorem exk_ok {x y : PySem.Str} {b : Bool} (c : (Fm.exk x y b).ok K = true) : PySem.W.kitOne K (.ref (He.ga K x)) (.ref (He.ga K y)) = some b := of_decide_eq_true c
end
/-! ### the Hook -/
abbrev AlM : Type := He.AlT × Bool
def obsM (n : Nat) (fa : List He.Fa) (fn : List He.DefD) (ts : List He.Tab) (fm : List Fm) (g : Addr → Option Obj) : AlM := (He.obsT fa fn ts (He.frG g (He.asD g n)), fm.all fun f => f.ok (He.frG g (He.asD g n)))
structure SaysM (fa : List He.Fa) (fn : List He.DefD) (ts : List He.Tab) (fm : List Fm) (w : World) (K : PySem.W.Frag) : Prop where
  t : He.SaysT fa fn ts w K
  m : ∀ f ∈ fm, f.ok K = true
def hookM (n : Nat) (fa : List He.Fa) (fn : List He.DefD) (ts : List He.Tab) (fm : List Fm) : PySem.W.Hook where
  α := AlM
  obs := fun s => obsM n fa fn ts fm s.heap.get?
  val := fun w => (He.valT fn ts w, true)
  says := fun w h => ∃ K : PySem.W.Frag, K.In h ∧ SaysM fa fn ts fm w K
  of := fun _ _ e => ⟨_, He.frG_in, congrArg (fun z : AlM => z.1) e, List.all_eq_true.mp (congrArg (fun z : AlM => z.2) e)⟩
  keeps := fun _ _ _ ⟨K, hK, c⟩ k => ⟨K, PySem.W.Frag.In.keeps hK k, c⟩
theorem obsM_eq {n : Nat} {fa : List He.Fa} {fn : List He.DefD} {ts : List He.Tab} {fm : List Fm} {g : Addr → Option Obj} {s : Shared} (h : ∀ a, g a = s.heap.get? a) : obsM n fa fn ts fm g = (hookM n fa fn ts fm).obs s := by
  have e : g = s.heap.get? := funext h
  rw [e] <;> rfl
theorem SaysM.fm {fa : List He.Fa} {fn : List He.DefD} {ts : List He.Tab} {fm : List Fm} {w : World} {K : PySem.W.Frag} (c : SaysM fa fn ts fm w K) (i : Nat) {f : Fm} (h : fm[i]? = some f) : f.ok K = true := c.m f (List.mem_of_getElem? h)
theorem SaysM.tab {fa : List He.Fa} {fn : List He.DefD} {ts : List He.Tab} {fm : List Fm} {w : World} {K : PySem.W.Frag} (c : SaysM fa fn ts fm w K) {x : PySem.Str} {rows : List (List Nat × List Nat)} {ats : List (PySem.Str × Option PySem.Str)} (i j : Nat) {t : He.Tab} (h : fm[i]? = some (.tab x rows ats)) (ht : ts[j]? = some t) (e : t.1 K = He.ga K x) : TabAt K w (He.ga K x) (fa0 K ats) rows :=
  tabB_ok (c.fm i h) (e ▸ c.t.tab j ht)
theorem fa0_tx (t : TX) (K : PySem.W.Frag) : (t.L K).fa = fa0 K (t.dm.map (·.dd.at_)) := by
  funext k
  show (match t.dm[k]? with | some d => He.fAd K d.dd.at_ | none => 0) = _
  unfold fa0
  rw [List.getElem?_map]
  cases t.dm[k]? <;> rfl
theorem SaysM.d {fa : List He.Fa} {fn : List He.DefD} {ts : List He.Tab} {fm : List Fm} {w : World} {K : PySem.W.Frag} (c : SaysM fa fn ts fm w K) : He.SaysD fa fn K := c.t.d
end MP
namespace MP
open PySem PySem.Spec PyProof.Rows L2
/-- a table's rows, each with its proof -/
def AllS (P : Nat → Nat → Bool → Prop) : List ((Nat × Nat) × Bool) → Prop
  | [] => True
  | ((a, c), b) :: r => P a c b ∧ AllS P r
theorem AllS.at {P : Nat → Nat → Bool → Prop} : ∀ {l : List ((Nat × Nat) × Bool)} {a c : Nat} {b : Bool}, AllS P l → l.lookup (a, c) = some b → P a c b
  | [], _, _, _, _, e => by cases e
  | ((a', c'), b') :: r, a, c, b, h, e => by
    rw [List.lookup_cons] at e
    split at e
    · rename_i q
      cases e
      cases beq_iff_eq.mp q
      exact h.1
    · exact AllS.at h.2 e
def AllE (P : Nat → Bool → Prop) : List (Nat × Bool) → Prop
  | [] => True
  | (a, b) :: r => P a b ∧ AllE P r
theorem AllE.at {P : Nat → Bool → Prop} : ∀ {l : List (Nat × Bool)} {a : Nat} {b : Bool}, AllE P l → l.lookup a = some b → P a b
  | [], _, _, _, e => by cases e
  | (a', b') :: r, a, b, h, e => by
    rw [List.lookup_cons] at e
    split at e
    · rename_i q
      cases e
      cases beq_iff_eq.mp q
      exact h.1
    · exact AllE.at h.2 e
def ExP (K : PySem.W.Frag) (L : Lk) (c : Nat) : Bool → Prop
  | false => PySem.W.excIn K (L.ca c) He.veBase "ValueError.__new__" = true ∧ PySem.W.keepIn K (.ref (L.ca c)) = true ∧ PySem.W.subIn K (.ref (L.ca c)) (.type "BaseException") = some true ∧ PySem.W.typeIn K (.ref (L.ca c)) = some (.type "type")
  | true => ExnOne K (L.ca c)
def mem (s : Stmt) (j : Nat) : Stmt := match s with
  | .ClassDef _ _ _ body .. => body.getD j (.Pass ⟨0, 0, 0, 0⟩)
  | _ => .Pass ⟨0, 0, 0, 0⟩
end MP

/-! Mp4: MP's meaning as equations that simp can follow (first arguments first) -/
namespace MP
theorem bind_cg {α β : Type} {o o' : Out α} {f : α → Heap → Out β} (e : o = o') : o.bind f = o'.bind f := by rw [e]
theorem stm_cg {α : Type} {o o' : Out α} {ρ : Env} {f : α → Heap → SO} (e : o = o') : o.stm ρ f = o'.stm ρ f := by rw [e]
theorem next_cg {o o' : SO} {f : Env → Heap → SO} (e : o = o') : o.next f = o'.next f := by rw [e]
/-- by a truth value -/
def ifO {α : Type} (b : Option Bool) (t f : Unit → α) (z : α) : α := match b with
  | some true => t ()
  | some false => f ()
  | none => z
theorem ifO_cg {α : Type} {b b' : Option Bool} {t f : Unit → α} {z : α} (e : b = b') : ifO b t f z = ifO b' t f z := by rw [e]
theorem ifO_t {α : Type} (t f : Unit → α) (z : α) : ifO (some true) t f z = t () := Eq.trans rfl rfl
theorem ifO_f {α : Type} (t f : Unit → α) (z : α) : ifO (some false) t f z = f () := Eq.trans rfl rfl
theorem bind_ok' {α β : Type} (a : α) (h : Heap) (f : α → Heap → Out β) : (Out.ok a h).bind f = f a h := Eq.trans rfl rfl
theorem stm_ok' {α : Type} (a : α) (h : Heap) (ρ : Env) (f : α → Heap → SO) : (Out.ok a h).stm ρ f = f a h := Eq.trans rfl rfl
theorem next_nx' (ρ : Env) (h : Heap) (f : Env → Heap → SO) : (SO.nx ρ h).next f = f ρ h := Eq.trans rfl rfl
theorem next_rt' (v : Val) (h : Heap) (f : Env → Heap → SO) : (SO.rt v h).next f = .rt v h := Eq.trans rfl rfl
theorem next_exc' (x : Exc) (ρ : Env) (h : Heap) (f : Env → Heap → SO) : (SO.exc x ρ h).next f = .exc x ρ h := Eq.trans rfl rfl
theorem stm_exc' {α : Type} (x : Exc) (h : Heap) (ρ : Env) (f : α → Heap → SO) : (Out.exc x h : Out α).stm ρ f = .exc x ρ h := Eq.trans rfl rfl
theorem bind_exc' {α β : Type} (x : Exc) (h : Heap) (f : α → Heap → Out β) : (Out.exc x h).bind f = .exc x h := Eq.trans rfl rfl
/-- by an option -/
def opt {α β : Type} (o : Option α) (f : α → β) (z : β) : β := match o with
  | some a => f a
  | none => z
theorem opt_cg {α β : Type} {o o' : Option α} {f : α → β} {z : β} (e : o = o') : opt o f z = opt o' f z := by rw [e]
theorem opt_some {α β : Type} (a : α) (f : α → β) (z : β) : opt (some a) f z = f a := Eq.trans rfl rfl
def varO (v : Option (Option Val)) (h : Heap) : Out Val := match v with
  | some (some v) => .ok v h
  | _ => .bad
theorem varO_some (v : Val) (h : Heap) : varO (some (some v)) h = .ok v h := Eq.trans rfl rfl
/-- a built-in's value: a list is laid -/
def laidV (new : Bool) (v : Option Val) (h : Heap) : Out Val := match v with
  | some (.lst xs) => newL new xs h
  | some v => .ok v h
  | none => .bad
theorem laidV_int (new : Bool) (i : Int) (h : Heap) : laidV new (some (.int i)) h = .ok (.int i) h := Eq.trans rfl rfl
theorem laidV_bl (new : Bool) (i : Bool) (h : Heap) : laidV new (some (.bl i)) h = .ok (.bl i) h := Eq.trans rfl rfl
theorem laidV_str (new : Bool) (i : List Nat) (h : Heap) : laidV new (some (.str i)) h = .ok (.str i) h := Eq.trans rfl rfl
theorem laidV_tup (new : Bool) (i : List Val) (h : Heap) : laidV new (some (.tup i)) h = .ok (.tup i) h := Eq.trans rfl rfl
theorem laidV_lst (new : Bool) (i : List Val) (h : Heap) : laidV new (some (.lst i)) h = newL new i h := Eq.trans rfl rfl
theorem retO_rt (v : Val) (h : Heap) : retO (.rt v h) = .ok v h := Eq.trans rfl rfl
theorem retO_nx (ρ : Env) (h : Heap) : retO (.nx ρ h) = .ok .non h := Eq.trans rfl rfl
theorem retO_exc (x : Exc) (ρ : Env) (h : Heap) : retO (.exc x ρ h) = .exc x h := Eq.trans rfl rfl
section
variable (T : Tb) (F : Fns) (ρ : Env) (h : Heap)
theorem evE_var (i : Nat) : evE T F (.var i) ρ h = varO ρ[i]? h := by
  conv => lhs; unfold evE
  rcases ρ[i]? with _ | _ | x <;> rfl
theorem evE_cst (v : Val) : evE T F (.cst v) ρ h = .ok v h := by (conv => lhs; unfold evE) <;> rfl
theorem evE_tup (es : List E) : evE T F (.tup es) ρ h = (evEs T F es ρ h).bind fun vs h => if vs.length ≤ line then .ok (.tup vs) h else .bad := by (conv => lhs; unfold evE) <;> rfl
theorem evE_lst (n : Bool) (es : List E) : evE T F (.lst n es) ρ h = (evEs T F es ρ h).bind fun vs h => newL n vs h := by (conv => lhs; unfold evE) <;> rfl
theorem evE_dic : evE T F .dic ρ h = .ok (.ref h.n) (h.push (.dic [] false)) := by (conv => lhs; unfold evE) <;> rfl
theorem evE_op (o : Op) (a b : E) : evE T F (.op o a b) ρ h = (evE T F a ρ h).bind fun x h => (evE T F b ρ h).bind fun y h => .ofOpt (opV h o x y) h := by (conv => lhs; unfold evE) <;> rfl
theorem evE_chain (o o' : Op) (a b c : E) : evE T F (.chain o o' a b c) ρ h = (evE T F a ρ h).bind fun x h => (evE T F b ρ h).bind fun y h => match opV h o x y with
    | some (.bl true) => (evE T F c ρ h).bind fun z h => .ofOpt (opV h o' y z) h
    | some (.bl false) => .ok (.bl false) h
    | _ => .bad := by (conv => lhs; unfold evE) <;> rfl
theorem evE_neg (a : E) : evE T F (.neg a) ρ h = (evE T F a ρ h).bind fun x h => match x with
    | .int i => .ok (.int (-i)) h
    | _ => .bad := by (conv => lhs; unfold evE) <;> rfl
theorem evE_not (a : E) : evE T F (.not a) ρ h = (evE T F a ρ h).bind fun x h => opt (truthy h x) (fun b => .ok (.bl (!b)) h) .bad := by
  conv => lhs; unfold evE
  congr 1; funext x h
  cases truthy h x <;> rfl
theorem evE_and (a b : E) : evE T F (.and a b) ρ h = (evE T F a ρ h).bind fun x h => ifO (truthy h x) (fun _ => evE T F b ρ h) (fun _ => .ok x h) .bad := by
  conv => lhs; unfold evE
  congr 1; all_goals funext x h
  all_goals (rcases truthy h x with _ | _ | _ <;> rfl)
theorem evE_or (a b : E) : evE T F (.or a b) ρ h = (evE T F a ρ h).bind fun x h => ifO (truthy h x) (fun _ => .ok x h) (fun _ => evE T F b ρ h) .bad := by
  conv => lhs; unfold evE
  congr 1; all_goals funext x h
  all_goals (rcases truthy h x with _ | _ | _ <;> rfl)
theorem evE_ite (c a b : E) : evE T F (.ite c a b) ρ h = (evE T F c ρ h).bind fun x h => ifO (truthy h x) (fun _ => evE T F a ρ h) (fun _ => evE T F b ρ h) .bad := by
  conv => lhs; unfold evE
  congr 1; all_goals funext x h
  all_goals (rcases truthy h x with _ | _ | _ <;> rfl)
theorem evE_attr (a : E) (f : Nat) : evE T F (.attr a f) ρ h = (evE T F a ρ h).bind fun x h => attrV T F x f h := by (conv => lhs; unfold evE) <;> rfl
theorem evE_sub (a i : E) : evE T F (.sub a i) ρ h = (evE T F a ρ h).bind fun x h => (evE T F i ρ h).bind fun y h => .ofOpt (subV h x y) h := by (conv => lhs; unfold evE) <;> rfl
theorem evE_slice (n : Bool) (a : E) (lo hi : List E) : evE T F (.slice n a lo hi) ρ h = (evE T F a ρ h).bind fun x h => (evEs T F lo ρ h).bind fun l h => opt (intsV l) (fun l => (evEs T F hi ρ h).bind fun u h => opt (intsV u) (fun u => laidV n (sliceV h x l.head? u.head?) h) .bad) .bad := by
  conv => lhs; unfold evE
  congr 1; funext x h
  congr 1; funext l h
  cases intsV l with
  | none => rfl
  | some l =>
    show Out.bind _ _ = Out.bind _ _
    congr 1; funext u h
    cases intsV u with
    | none => rfl
    | some u =>
      show (match sliceV h x l.head? u.head? with | some (.lst xs) => newL n xs h | some v => .ok v h | none => .bad) = laidV n _ h
      cases sliceV h x l.head? u.head? with
      | none => rfl
      | some v => cases v <;> rfl
theorem evE_call (k : Nat) (es : List E) : evE T F (.call k es) ρ h = (evEs T F es ρ h).bind fun vs h => F k vs h := by (conv => lhs; unfold evE) <;> rfl
theorem evE_callK (k : Nat) (es : List E) (b : List Bd) : evE T F (.callK k es b) ρ h = (evEs T F es ρ h).bind fun vs h => opt (bindBd vs b) (fun us => F k us h) .bad := by
  conv => lhs; unfold evE
  congr 1; funext vs h
  cases bindBd vs b <;> rfl
theorem evE_make (c : Nat) (es : List E) : evE T F (.make c es) ρ h = (evEs T F es ρ h).bind fun vs h => makeV T F c vs h := by (conv => lhs; unfold evE) <;> rfl
theorem evE_bm (a : E) (m : Bm) (es : List E) : evE T F (.bm a m es) ρ h = (evE T F a ρ h).bind fun x h => opt (bmK h m x) (fun t => (evEs T F es ρ h).bind fun vs h => if bmK h m x = some t then bmV h m x vs else .bad) .bad := by
  conv => lhs; unfold evE
  congr 1; funext x h
  cases bmK h m x <;> rfl
theorem evE_bf (f : Bf) (n : Bool) (es : List E) : evE T F (.bf f n es) ρ h = (evEs T F es ρ h).bind fun vs h => laidV n (bfV h f vs) h := by
  conv => lhs; unfold evE
  congr 1; all_goals funext vs h
  all_goals (rcases bfV h f vs with _ | v)
  all_goals first | rfl | (cases v <;> rfl)
theorem evE_isi (a : E) (t : Ty) : evE T F (.isi a t) ρ h = (evE T F a ρ h).bind fun x h => .ofOpt ((isiV T h x t).map .bl) h := by (conv => lhs; unfold evE) <;> rfl
theorem exS_asg (tg : Tg) (e : E) : exS T F (.asg tg e) ρ h = (evE T F e ρ h).stm ρ fun v h => opt (bindTg ρ tg v) (fun ρ' => .nx ρ' h) .bad := by
  conv => lhs; unfold exS
  congr 1; funext v h
  cases bindTg ρ tg v <;> rfl
theorem exS_augN (i : Nat) (o : Op) (e : E) : exS T F (.augN i o e) ρ h = (varO ρ[i]? h).stm ρ fun x h => (evE T F e ρ h).stm ρ fun y h => opt (augV o x y) (fun z => .nx (ρ.set i (some z)) h) .bad := by
  conv => lhs; unfold exS
  rcases ρ[i]? with _ | _ | x
  · rfl
  · rfl
  · show _ = Out.stm (.ok x h) ρ _
    rw [Out.stm_ok]
    show Out.stm _ _ _ = Out.stm _ _ _
    congr 1; funext y h
    cases augV o x y <;> rfl
theorem exS_expr (e : E) : exS T F (.expr e) ρ h = (evE T F e ρ h).stm ρ fun _ h => .nx ρ h := by (conv => lhs; unfold exS) <;> rfl
theorem exS_ret (e : E) : exS T F (.ret e) ρ h = (evE T F e ρ h).stm ρ fun v h => .rt v h := by (conv => lhs; unfold exS) <;> rfl
theorem exS_ife (c : E) (a b : List S) : exS T F (.ife c a b) ρ h = (evE T F c ρ h).stm ρ fun x h => ifO (truthy h x) (fun _ => exB T F a ρ h) (fun _ => exB T F b ρ h) .bad := by
  conv => lhs; unfold exS
  congr 1; all_goals funext x h
  all_goals (rcases truthy h x with _ | _ | _ <;> rfl)
theorem exB_nil' : exB T F [] ρ h = .nx ρ h := by unfold exB; rfl
theorem exB_cons' (s : S) (r : List S) : exB T F (s :: r) ρ h = (exS T F s ρ h).next fun ρ h => exB T F r ρ h := by (conv => lhs; unfold exB) <;> rfl
/-- a for over values that no cell gives -/
theorem exS_loop' {tg : Tg} {w : Nat} {it : List E} {body : List S} (hw : w ≠ 1) : exS T F (.loop tg w it body) ρ h = (evEs T F it ρ h).stm ρ fun ws h => opt (walkV h w ws) (fun items => forL (fun h' => stays h h' ws) (fun v ρ h => opt (bindTg ρ tg v) (fun ρ' => exB T F body ρ' h) .bad) items ρ h) .bad := by
  conv => lhs; unfold exS
  dsimp only
  split
  · exact absurd rfl hw
  · congr 1; funext ws h
    cases walkV h w ws with
    | none => rfl
    | some items =>
      show forL _ _ _ _ _ = forL _ _ _ _ _
      congr 1; funext v ρ h
      cases bindTg ρ tg v <;> rfl
/-- a while -/
noncomputable def wStep (c : E) (body : List S) : Env → Heap → WS := fun ρ h => match evE T F c ρ h with
  | .ok x h => match truthy h x with
    | some true => match exB T F body ρ h with
      | .nx ρ h => .again ρ h
      | .ct ρ h => .again ρ h
      | .bk ρ h => .done (.nx ρ h)
      | o => .done o
    | some false => .done (.nx ρ h)
    | none => .done .bad
  | .exc x h => .done (.exc x ρ h)
  | .bad => .done .bad
theorem exS_whl (c : E) (body : List S) : exS T F (.whl c body) ρ h = whileL (wStep T F c body) ρ h := by (conv => lhs; unfold exS) <;> rfl
theorem whl_again {c : E} {body : List S} {v : Val} {h1 h2 : Heap} {ρ2 : Env} (e1 : evE T F c ρ h = .ok v h1) (e2 : truthy h1 v = some true) (e3 : exB T F body ρ h1 = .nx ρ2 h2) : whileL (wStep T F c body) ρ h = whileL (wStep T F c body) ρ2 h2 := by
  rw [whileL_eq]
  unfold wStep
  rw [e1]
  dsimp only
  rw [e2]
  dsimp only
  rw [e3]
theorem whl_done {c : E} {body : List S} {v : Val} {h1 : Heap} (e1 : evE T F c ρ h = .ok v h1) (e2 : truthy h1 v = some false) : whileL (wStep T F c body) ρ h = .nx ρ h1 := by
  rw [whileL_eq]
  unfold wStep
  rw [e1]
  dsimp only
  rw [e2]
end
/-! ### values -/
section
variable (h : Heap)
theorem v_add (i j : Int) : opV h .add (.int i) (.int j) = some (.int (i + j)) := Eq.trans rfl rfl
theorem v_adds {s t : List Nat} (q : s.length + t.length ≤ line) : opV h .add (.str s) (.str t) = some (.str (s ++ t)) := by simp [opV, q]
theorem v_sub (i j : Int) : opV h .sub (.int i) (.int j) = some (.int (i - j)) := Eq.trans rfl rfl
theorem v_mul1 {i j : Int} (q : small64 i) : opV h .mul (.int i) (.int j) = some (.int (i * j)) := by simp [opV, q]
theorem v_mul2 {i j : Int} (q : small64 j) : opV h .mul (.int i) (.int j) = some (.int (i * j)) := by simp [opV, q]
theorem v_fdiv {i j : Int} (q : j ≠ 0 ∧ j.natAbs < bound30) : opV h .fdiv (.int i) (.int j) = some (.int (i.fdiv j)) := by simp [opV, q]
theorem v_mod {i j : Int} (q : j ≠ 0) : opV h .mod (.int i) (.int j) = some (.int (i.fmod j)) := by simp [opV, q]
theorem v_pow {i j : Int} (q : 0 ≤ j ∧ j ≤ 1000000 ∧ i.natAbs < 2 ^ 64) : opV h .pow (.int i) (.int j) = some (.int (i ^ j.toNat)) := by
  show (if _ then _ else _) = _
  rw [if_pos q]
theorem v_lt (i j : Int) : opV h .lt (.int i) (.int j) = some (.bl (decide (i < j))) := Eq.trans rfl rfl
theorem v_le (i j : Int) : opV h .le (.int i) (.int j) = some (.bl (decide (i ≤ j))) := Eq.trans rfl rfl
theorem v_gt (i j : Int) : opV h .gt (.int i) (.int j) = some (.bl (decide (j < i))) := Eq.trans rfl rfl
theorem v_ge (i j : Int) : opV h .ge (.int i) (.int j) = some (.bl (decide (j ≤ i))) := Eq.trans rfl rfl
theorem eq_ii (i j : Int) : eqVal h (.int i) (.int j) = some (i == j) := Eq.trans rfl rfl
theorem v_eqi (i j : Int) : opV h .eq (.int i) (.int j) = some (.bl (i == j)) := Eq.trans rfl rfl
theorem v_nei (i j : Int) : opV h .ne (.int i) (.int j) = some (.bl (!(i == j))) := Eq.trans rfl rfl
def okT (s : List Nat) : Bool := s.all fun c => decide (c < 1114112)
theorem v_eqs {s t : List Nat} (a : okT s = true) (b : okT t = true) : opV h .eq (.str s) (.str t) = some (.bl (s == t)) := by
  unfold okT at a b
  simp [opV, eqVal, toD, a, b, D.eqv]
theorem v_nes {s t : List Nat} (a : okT s = true) (b : okT t = true) : opV h .ne (.str s) (.str t) = some (.bl (!(s == t))) := by
  unfold okT at a b
  simp [opV, eqVal, toD, a, b, D.eqv]
theorem v_ins (s : List Nat) (c : Nat) : opV h .isin (.str [c]) (.str s) = some (.bl (s.contains c)) := Eq.trans rfl rfl
theorem v_notins (s : List Nat) (c : Nat) : opV h .notin (.str [c]) (.str s) = some (.bl (!s.contains c)) := Eq.trans rfl rfl
theorem t_bl (b : Bool) : truthy h (.bl b) = some b := Eq.trans rfl rfl
theorem t_int (i : Int) : truthy h (.int i) = some (i != 0) := Eq.trans rfl rfl
theorem at_nat {α : Type} (xs : List α) (k : Nat) : at_ xs (k : Int) = xs[k]? := by
  unfold at_ place
  rw [if_pos (Int.natCast_nonneg k)]
  split
  · simp
  · rename_i h
    have : xs.length ≤ k := by omega
    simp [List.getElem?_eq_none this]
theorem ofOpt_some' {α : Type} (a : α) : Out.ofOpt (some a) h = .ok a h := Eq.trans rfl rfl
theorem bt_name {ρ : Env} {i : Nat} {v : Val} (q : i < ρ.length) : bindTg ρ (.name i) v = some (ρ.set i (some v)) := by simp [bindTg, setSlots, q]
theorem bf_int (i : Int) : bfV h .int [.int i] = some (.int i) := Eq.trans rfl rfl
theorem bf_intd {s : List Nat} (q : allDig s = true ∧ s.length ≤ 640) : bfV h .int [.str s] = some (.int (digVal s)) := by
  show (if _ then _ else _) = _
  rw [if_pos q]
theorem bf_lens {s : List Nat} (q : s.length ≤ line) : bfV h .len [.str s] = some (.int s.length) := by
  show (if _ then _ else _) = _
  rw [if_pos q]
theorem bf_lent (xs : List Val) : bfV h .len [.tup xs] = some (.int xs.length) := Eq.trans rfl rfl
theorem bf_lenl (xs : List Val) : bfV h .len [.lst xs] = some (.int xs.length) := Eq.trans rfl rfl
theorem bf_lena (xs : List Val) : bfV h .len [.arr xs] = some (.int xs.length) := Eq.trans rfl rfl
theorem bf_lenr {r : Nat} {xs : List Val} (q : h.c r = some (.lst xs)) : bfV h .len [.ref r] = some (.int xs.length) := by simp [bfV, q]
theorem bf_tupr {r : Nat} {xs : List Val} (q : h.c r = some (.lst xs)) : bfV h .tuple [.ref r] = some (.tup xs) := by simp [bfV, seqOf, q]
theorem bf_strs (s : List Nat) : bfV h .str [.str s] = some (.str s) := Eq.trans rfl rfl
theorem bf_stri {i : Int} (q : i.natAbs.log2 < 1920) : bfV h .str [.int i] = some (.str (intText i)) := by
  show (if _ then _ else _) = _
  rw [if_pos q]
theorem sub_t (xs : List Val) (i : Int) : subV h (.tup xs) (.int i) = at_ xs i := Eq.trans rfl rfl
theorem sub_l (xs : List Val) (i : Int) : subV h (.lst xs) (.int i) = at_ xs i := Eq.trans rfl rfl
theorem sub_a (xs : List Val) (i : Int) : subV h (.arr xs) (.int i) = at_ xs i := Eq.trans rfl rfl
theorem sub_r {r : Nat} {xs : List Val} (q : h.c r = some (.lst xs)) (i : Int) : subV h (.ref r) (.int i) = at_ xs i := by simp [subV, q]
theorem sub_s {s : List Nat} (q : s.length ≤ line) (i : Int) : subV h (.str s) (.int i) = (at_ s i).map fun c => .str [c] := by
  show (if _ then _ else _) = _
  rw [if_pos q]
theorem isv_non (x : Val) (q : x ≠ .non) : isVal x .non = some false := by cases x <;> first | rfl | exact absurd rfl q
theorem v_is_non (x : Val) (q : x ≠ .non) : opV h .is x .non = some (.bl false) := by simp [opV, isv_non x q]
theorem v_is_nn : opV h .is .non .non = some (.bl true) := Eq.trans rfl rfl
theorem v_is_bb (a b : Bool) : opV h .is (.bl a) (.bl b) = some (.bl (a == b)) := Eq.trans rfl rfl
theorem v_is_ib (a : Int) (b : Bool) : opV h .is (.int a) (.bl b) = some (.bl false) := Eq.trans rfl rfl
theorem v_is_sb (a : List Nat) (b : Bool) : opV h .is (.str a) (.bl b) = some (.bl false) := Eq.trans rfl rfl
theorem v_is_nb (b : Bool) : opV h .is .non (.bl b) = some (.bl false) := Eq.trans rfl rfl
end
/-! ### comprehensions -/
noncomputable def cTurn (T : Tb) (F : Fns) (elt : E) (tg : Tg) (ifs : List E) (vs : List Nat) (ρ : Env) : Val → Heap → Out (List Val) := fun v h => opt (bindTg (wipeS ρ vs) tg v) (fun ρ' => (evEs T F ifs ρ' h).bind fun bs h => match bs with
    | [] => (evE T F elt ρ' h).bind fun y h => .ok [y] h
    | [b] => ifO (truthy h b) (fun _ => (evE T F elt ρ' h).bind fun y h => .ok [y] h) (fun _ => .ok [] h) .bad
    | _ => .bad) .bad
/-- the comprehension's end -/
def compO (new : Bool) (o : Out (List Val)) : Out Val := match o with
  | .ok ys h => newL new ys h
  | _ => .bad
theorem compO_ok (new : Bool) (ys : List Val) (h : Heap) : compO new (.ok ys h) = newL new ys h := Eq.trans rfl rfl
theorem compO_cg {new : Bool} {o o' : Out (List Val)} (e : o = o') : compO new o = compO new o' := by rw [e]
theorem evE_comp' (T : Tb) (F : Fns) (ρ : Env) (h : Heap) {new : Bool} {elt : E} {tg : Tg} {w : Nat} {it ifs : List E} {vs : List Nat} (hw : w ≠ 1) : evE T F (.comp new elt tg w it ifs vs) ρ h = (evEs T F it ρ h).bind fun ws h => opt (walkV h w ws) (fun items => compO new (compL (fun h' => stays h h' ws) (cTurn T F elt tg ifs vs ρ) items h)) .bad := by
  conv => lhs; unfold evE
  dsimp only
  split
  · exact absurd rfl hw
  · congr 1; funext ws h
    cases walkV h w ws with
    | none => rfl
    | some items =>
      show (match compL _ _ items h with | .ok ys h2 => newL new ys h2 | _ => .bad) = compO new (compL _ _ items h)
      have : ∀ (a b : Val → Heap → Out (List Val)), a = b → (match compL (fun h' => stays h h' ws) a items h with | .ok ys h2 => newL new ys h2 | _ => .bad) = compO new (compL (fun h' => stays h h' ws) b items h) := by
        rintro a _ rfl
        cases compL (fun h' => stays h h' ws) a items h <;> rfl
      apply this
      funext v h
      unfold cTurn
      cases bindTg (wipeS ρ vs) tg v with
      | none => rfl
      | some ρ' =>
        show Out.bind _ _ = Out.bind _ _
        refine congrArg _ (funext fun bs => funext fun h => ?_)
        rcases bs with _ | ⟨b, _ | ⟨c, r⟩⟩
        · rfl
        · show (match truthy h b with | some true => _ | some false => _ | none => _) = ifO (truthy h b) _ _ _
          rcases truthy h b with _ | _ | _ <;> rfl
        · rfl
theorem compL_map {G : Heap → Prop} {step : Val → Heap → Out (List Val)} {f : Val → Val} {h : Heap} (hG : G h) : ∀ {items : List Val}, (∀ x ∈ items, step x h = .ok [f x] h) → compL G step items h = .ok (items.map f) h
  | [], _ => rfl
  | x :: r, hs => by
    unfold compL
    rw [hs x List.mem_cons_self]
    dsimp only
    rw [if_pos hG, compL_map hG fun y hy => hs y (List.mem_cons_of_mem _ hy)]
    rfl
theorem newL_v {xs : List Val} {h : Heap} (q : xs.length ≤ line) : newL false xs h = .ok (.lst xs) h := by
  unfold newL
  rw [if_pos q]
  rfl
theorem newL_n {xs : List Val} {h : Heap} (q : xs.length ≤ line) : newL true xs h = .ok (.ref h.n) (h.push (.lst xs)) := by
  unfold newL
  rw [if_pos q]
  rfl
theorem stays_tup {h h' : Heap} {xs : List Val} : stays h h' [.tup xs] := trivial
theorem stays_str {h h' : Heap} {xs : List Nat} : stays h h' [.str xs] := trivial
theorem stays_int {h h' : Heap} {i : Int} : stays h h' [.int i] := trivial
/-- a for, one turn -/
theorem forL_nx {G : Heap → Prop} {body : Val → Env → Heap → SO} {v : Val} {r : List Val} {ρ ρ' : Env} {h h' : Heap} (e : body v ρ h = .nx ρ' h') (g : G h') : forL G body (v :: r) ρ h = forL G body r ρ' h' := by
  conv => lhs; unfold forL
  rw [e]
  dsimp only
  rw [if_pos g]
theorem forL_rt {G : Heap → Prop} {body : Val → Env → Heap → SO} {v x : Val} {r : List Val} {ρ : Env} {h h' : Heap} (e : body v ρ h = .rt x h') : forL G body (v :: r) ρ h = .rt x h' := by
  conv => lhs; unfold forL
  rw [e]
theorem forL_nil {G : Heap → Prop} {body : Val → Env → Heap → SO} {ρ : Env} {h : Heap} : forL G body [] ρ h = .nx ρ h := rfl
theorem forL_cg {G : Heap → Prop} {b : Val → Env → Heap → SO} {l l' : List Val} {ρ ρ' : Env} {h h' : Heap} (e1 : l = l') (e2 : ρ = ρ') (e3 : h = h') : forL G b l ρ h = forL G b l' ρ' h' := by rw [e1, e2, e3]
theorem compL_cg {G : Heap → Prop} {b : Val → Heap → Out (List Val)} {l l' : List Val} {h h' : Heap} (e1 : l = l') (e3 : h = h') : compL G b l h = compL G b l' h' := by rw [e1, e3]
theorem whileL_cg {b : Env → Heap → WS} {ρ ρ' : Env} {h h' : Heap} (e2 : ρ = ρ') (e3 : h = h') : whileL b ρ h = whileL b ρ' h' := by rw [e2, e3]
theorem loop_of {T : Tb} {F : Fns} {tg : Tg} {w : Nat} {it : List E} {body : List S} {ρ : Env} {h h1 : Heap} {ws items : List Val} {o : SO} (hw : w ≠ 1) (e1 : evEs T F it ρ h = .ok ws h1) (e2 : walkV h1 w ws = some items)
    (e3 : forL (fun h' => stays h1 h' ws) (fun v ρ h => opt (bindTg ρ tg v) (fun ρ' => exB T F body ρ' h) .bad) items ρ h1 = o) : exS T F (.loop tg w it body) ρ h = o := by
  rw [exS_loop' T F ρ h hw, e1, stm_ok', e2, opt_some]
  exact e3
theorem whl_of {T : Tb} {F : Fns} {c : E} {body : List S} {ρ : Env} {h : Heap} {o : SO} (e : whileL (wStep T F c body) ρ h = o) : exS T F (.whl c body) ρ h = o := by
  rw [exS_whl]
  exact e
/-- an error with its line -/
def raiseL (c : Nat) (v : Val) (ρ : Env) (h : Heap) : SO := match v with
  | .int i => .exc ⟨c, [(0, .int i)]⟩ ρ h
  | _ => .bad
theorem raiseL_int (c : Nat) (i : Int) (ρ : Env) (h : Heap) : raiseL c (.int i) ρ h = .exc ⟨c, [(0, .int i)]⟩ ρ h := Eq.trans rfl rfl
theorem exS_raise {T : Tb} (F : Fns) {c : Nat} (e : E) (ρ : Env) (h : Heap) (hx : T.exn c = some true) : exS T F (.raise c [e]) ρ h = (evE T F e ρ h).stm ρ fun v h => raiseL c v ρ h := by
  conv => lhs; unfold exS
  simp only [evEs_cons, evEs_nil, hx]
  cases evE T F e ρ h with
  | ok v h1 =>
    simp only [Out.bind_ok, Out.stm_ok]
    cases v <;> rfl
  | exc x h1 => rfl
  | bad => rfl
theorem exS_raise0 {T : Tb} (F : Fns) {c : Nat} (ρ : Env) (h : Heap) (hx : T.exn c = some false) : exS T F (.raise c []) ρ h = .exc ⟨c, []⟩ ρ h := by
  conv => lhs; unfold exS
  simp only [evEs_nil, hx, Out.stm_ok]
theorem exS_raise1 {T : Tb} (F : Fns) {c : Nat} (e : E) (ρ : Env) (h : Heap) (hx : T.exn c = some false) : exS T F (.raise c [e]) ρ h = (evE T F e ρ h).stm ρ fun _ h => .exc ⟨c, []⟩ ρ h := by
  conv => lhs; unfold exS
  simp only [evEs_cons, evEs_nil, hx]
  cases evE T F e ρ h with
  | ok v h1 => rfl
  | exc x h1 => rfl
  | bad => rfl
theorem whl_exc (T : Tb) (F : Fns) (ρ : Env) (h : Heap) {c : E} {body : List S} {v : Val} {h1 h2 : Heap} {ρ2 : Env} {x : Exc} (e1 : evE T F c ρ h = .ok v h1) (e2 : truthy h1 v = some true) (e3 : exB T F body ρ h1 = .exc x ρ2 h2) : whileL (wStep T F c body) ρ h = .exc x ρ2 h2 := by
  rw [whileL_eq]
  unfold wStep
  rw [e1]
  dsimp only
  rw [e2]
  dsimp only
  rw [e3]
end MP

/-! K72: law k72 over MP -/
namespace K72
open MP
def b0 : List S := [.ret (.and (.isi (.var 0) .int) (.and (.not (.isi (.var 0) .bool)) (.chain .le .le (.var 1) (.var 0) (.var 2))))]
def b1 : List S := [.ret (.call 0 [(.var 0), (.cst (.int 0)), (.cst (.int 4294967295))])]
def b2 : List S := [.ret (.call 0 [(.var 0), (.cst (.int 0)), (.cst (.int 1000000000000000))])]
def b3 : List S := [.ret (.call 0 [(.var 0), (.cst (.int 0)), (.cst (.int 1000000000000))])]
def b4 : List S := [.ret (.call 0 [(.var 0), (.neg (.cst (.int 3000000000000000))), (.cst (.int 3000000000000000))])]
def b5 : List S := [.ret (.isi (.var 0) .bool)]
def b6 : List S := [.ife (.or (.not (.isi (.var 0) .tuple)) (.op .ne (.bf .len false [(.var 0)]) (.bf .len false [(.var 1)]))) [.ret (.cst (.bl false))] [],
    .loop (.tup [2, 3]) 5 [(.var 1), (.var 0)] [.ife (.not (.callV 2 [(.var 3)])) [.ret (.cst (.bl false))] []],
    .ret (.cst (.bl true))]
def b7 : List S := [.ife (.or (.not (.isi (.var 0) .tuple)) (.op .gt (.bf .len false [(.var 0)]) (.var 2))) [.ret (.cst (.bl false))] [],
    .loop (.name 3) 0 [(.var 0)] [.ife (.not (.callV 1 [(.var 3)])) [.ret (.cst (.bl false))] []],
    .ret (.cst (.bl true))]
def b8 : List S := [.ret (.and (.isi (.var 0) .tuple) (.and (.op .gt (.bf .len false [(.var 0)]) (.cst (.int 0))) (.isi (.sub (.var 0) (.cst (.int 0))) .str)))]
def b9 : List S := [.ret (.call 6 [(.var 0), (.tup [(.cst (.fn 1)), (.cst (.fn 2)), (.cst (.fn 3)), (.cst (.fn 5))])])]
def b10 : List S := [.ret (.call 7 [(.var 0), (.cst (.fn 9)), (.cst (.int 30))])]
def b11 : List S := [.ret (.call 6 [(.var 0), (.tup [(.cst (.fn 1)), (.cst (.fn 1)), (.cst (.fn 4)), (.cst (.fn 4)), (.cst (.fn 10)), (.cst (.fn 5))])])]
def b12 : List S := [.ret (.call 6 [(.var 0), (.tup [(.cst (.fn 1)), (.cst (.fn 1)), (.cst (.fn 1)), (.cst (.fn 2)), (.cst (.fn 2)), (.cst (.fn 3)), (.cst (.fn 3))])])]
def b13 : List S := [.ret (.call 6 [(.var 0), (.tup [(.cst (.fn 1)), (.cst (.fn 1)), (.cst (.fn 1)), (.cst (.fn 3)), (.cst (.fn 2)), (.cst (.fn 2)), (.cst (.fn 2)), (.cst (.fn 2))])])]
def b14 : List S := [.ret (.and (.call 8 [(.var 0)]) (.and (.gin [([112, 97, 121], [1, 2]), ([111, 112, 101, 110], [12]), ([112, 117, 98, 108, 105, 115, 104], [11]), ([115, 101, 116, 116, 108, 101], [1]), ([115, 112, 108, 105, 99, 101], [13]), ([114, 101, 118, 101, 97, 108], [1])] (.sub (.var 0) (.cst (.int 0)))) (.call 6 [(.slice false (.var 0) [(.cst (.int 1))] []), (.gget [([112, 97, 121], [1, 2]), ([111, 112, 101, 110], [12]), ([112, 117, 98, 108, 105, 115, 104], [11]), ([115, 101, 116, 116, 108, 101], [1]), ([115, 112, 108, 105, 99, 101], [13]), ([114, 101, 118, 101, 97, 108], [1])] (.sub (.var 0) (.cst (.int 0))))])))]
def b15 : List S := [.ret (.call 7 [(.var 0), (.cst (.fn 1)), (.cst (.int 4))])]
def b16 : List S := [.ret (.call 6 [(.var 0), (.tup [(.cst (.fn 14)), (.cst (.fn 15)), (.cst (.fn 1)), (.cst (.fn 2)), (.cst (.fn 1))])])]
def b17 : List S := [.ret (.and (.call 8 [(.var 0)]) (.and (.gin [([108, 111, 99, 107], [1, 2, 3]), ([112, 97, 105, 100], [1, 1]), ([100, 114, 111, 112, 112, 101, 100], [1]), ([98, 97, 99, 107], [1]), ([116, 114, 97, 110, 115, 102, 101, 114], [2]), ([102, 105, 110, 105, 115, 104], [])] (.sub (.var 0) (.cst (.int 0)))) (.call 6 [(.slice false (.var 0) [(.cst (.int 1))] []), (.gget [([108, 111, 99, 107], [1, 2, 3]), ([112, 97, 105, 100], [1, 1]), ([100, 114, 111, 112, 112, 101, 100], [1]), ([98, 97, 99, 107], [1]), ([116, 114, 97, 110, 115, 102, 101, 114], [2]), ([102, 105, 110, 105, 115, 104], [])] (.sub (.var 0) (.cst (.int 0))))])))]
def b18 : List S := [.ret (.call 7 [(.var 0), (.cst (.fn 17)), (.cst (.int 16))])]
def b19 : List S := [.ret (.and (.call 8 [(.var 0)]) (.and (.gin [([111, 112, 101, 110, 105, 110, 103], [12]), ([115, 116, 101, 112], [1, 1, 18]), ([97, 110, 115, 119, 101, 114], [1, 1]), ([115, 112, 108, 105, 99, 101], [13]), ([116, 117, 114, 110], [1])] (.sub (.var 0) (.cst (.int 0)))) (.call 6 [(.slice false (.var 0) [(.cst (.int 1))] []), (.gget [([111, 112, 101, 110, 105, 110, 103], [12]), ([115, 116, 101, 112], [1, 1, 18]), ([97, 110, 115, 119, 101, 114], [1, 1]), ([115, 112, 108, 105, 99, 101], [13]), ([116, 117, 114, 110], [1])] (.sub (.var 0) (.cst (.int 0))))])))]
def b20 : List S := [.ret (.and (.call 8 [(.var 0)]) (.and (.gin [([111, 112, 101, 110], [12]), ([112, 97, 121], [1, 1, 2, 3]), ([103, 105, 118, 101], [1, 1, 1, 2, 3]), ([114, 101, 102, 117, 115, 101], [1, 1]), ([116, 114, 97, 110, 115, 102, 101, 114], [1, 2]), ([102, 105, 110, 105, 115, 104], [1]), ([115, 112, 108, 105, 99, 101], [13]), ([108, 101, 97, 118, 101], [1]), ([105, 110, 118, 111, 105, 99, 101], [1, 2])] (.sub (.var 0) (.cst (.int 0)))) (.call 6 [(.slice false (.var 0) [(.cst (.int 1))] []), (.gget [([111, 112, 101, 110], [12]), ([112, 97, 121], [1, 1, 2, 3]), ([103, 105, 118, 101], [1, 1, 1, 2, 3]), ([114, 101, 102, 117, 115, 101], [1, 1]), ([116, 114, 97, 110, 115, 102, 101, 114], [1, 2]), ([102, 105, 110, 105, 115, 104], [1]), ([115, 112, 108, 105, 99, 101], [13]), ([108, 101, 97, 118, 101], [1]), ([105, 110, 118, 111, 105, 99, 101], [1, 2])] (.sub (.var 0) (.cst (.int 0))))])))]
def b21 : List S := [.ret (.and (.call 8 [(.var 0)]) (.and (.gin [([111, 102, 102, 101, 114], [16]), ([115, 97, 121], [1, 1, 19]), ([100, 101, 108, 105, 118, 101, 114], [1]), ([108, 111, 115, 101], [1]), ([99, 111, 112, 121], [1]), ([98, 108, 111, 99, 107], []), ([116, 101, 108, 108], [1]), ([119, 105, 115, 104], [1, 20]), ([115, 116, 111, 112], [1])] (.sub (.var 0) (.cst (.int 0)))) (.call 6 [(.slice false (.var 0) [(.cst (.int 1))] []), (.gget [([111, 102, 102, 101, 114], [16]), ([115, 97, 121], [1, 1, 19]), ([100, 101, 108, 105, 118, 101, 114], [1]), ([108, 111, 115, 101], [1]), ([99, 111, 112, 121], [1]), ([98, 108, 111, 99, 107], []), ([116, 101, 108, 108], [1]), ([119, 105, 115, 104], [1, 20]), ([115, 116, 111, 112], [1])] (.sub (.var 0) (.cst (.int 0))))])))]
def b22 : List S := [.asg (.name 2) (.cst (.int 0)),
    .ife (.op .lt (.var 1) (.bf .len false [(.var 0)])) [.asg (.name 2) (.sub (.var 0) (.var 1))] [],
    .ife (.op .lt (.var 2) (.cst (.int 0))) [.asg (.name 2) (.op .sub (.op .sub (.cst (.int 0)) (.op .mul (.cst (.int 2)) (.var 2))) (.cst (.int 1)))] [],
    .ife (.op .ge (.var 2) (.op .pow (.cst (.int 10)) (.cst (.int 9)))) [.ret (.var 2)] [],
    .asg (.name 3) (.op .mod (.bf .int false [(.op .add (.op .add (.op .mul (.var 2) (.cst (.int 48271))) (.op .mul (.var 1) (.cst (.int 69621)))) (.cst (.int 11)))]) (.cst (.int 2147483647))),
    .asg (.name 3) (.op .mod (.bf .int false [(.op .add (.op .add (.op .mul (.var 3) (.cst (.int 16807))) (.op .mul (.var 1) (.cst (.int 12345)))) (.cst (.int 99991)))]) (.cst (.int 2147483629))),
    .asg (.name 4) (.op .mod (.bf .int false [(.op .add (.op .add (.op .mul (.var 3) (.cst (.int 40692))) (.op .mul (.var 1) (.cst (.int 3791)))) (.var 2))]) (.cst (.int 2147483399))),
    .asg (.name 4) (.op .mod (.bf .int false [(.op .add (.op .mul (.var 4) (.cst (.int 69621))) (.cst (.int 7)))]) (.cst (.int 2147483647))),
    .ret (.op .add (.op .mul (.var 3) (.cst (.int 2147483647))) (.var 4))]
def b23 : List S := [.ret (.and (.isi (.var 0) .bool) (.op .eq (.var 0) (.var 1)))]
def b24 : List S := [.asg (.name 1) (.dicI [(.cst (.str [108, 111, 99, 107])), (.lst false [(.cst (.str [110])), (.cst (.str [97])), (.cst (.str [104])), (.cst (.str [98]))]), (.cst (.str [115, 116, 97, 116, 101])), (.lst false [(.cst (.str [110])), (.cst (.str [110])), (.cst (.str [102])), (.cst (.str [102])), (.cst (.str [108, 111, 99, 107, 115])), (.cst (.str [98]))]), (.cst (.str [111, 112, 101, 110, 105, 110, 103])), (.lst false [(.cst (.str [110])), (.cst (.str [110])), (.cst (.str [110])), (.cst (.str [97])), (.cst (.str [97])), (.cst (.str [104])), (.cst (.str [104]))]), (.cst (.str [115, 112, 108, 105, 99, 101])), (.lst false [(.cst (.str [110])), (.cst (.str [110])), (.cst (.str [110])), (.cst (.str [104])), (.cst (.str [97])), (.cst (.str [97])), (.cst (.str [97])), (.cst (.str [97]))]), (.cst (.str [116, 104, 105, 110, 103])), (.lst false [(.cst (.str [97, 99, 116])), (.cst (.str [104, 97, 110, 100, 115])), (.cst (.str [110])), (.cst (.str [97])), (.cst (.str [110]))])]),
    .ife (.op .isin (.var 0) (.var 1)) [.ret (.sub (.var 1) (.var 0))] [],
    .ret (.cst (.non))]
def b25 : List S := [.asg (.name 1) (.dicI [(.cst (.str [97, 99, 116])), (.lst false [(.tup [(.cst (.str [112, 97, 121])), (.lst false [(.cst (.str [110])), (.cst (.str [97]))])]), (.tup [(.cst (.str [111, 112, 101, 110])), (.lst false [(.cst (.str [111, 112, 101, 110, 105, 110, 103]))])]), (.tup [(.cst (.str [112, 117, 98, 108, 105, 115, 104])), (.lst false [(.cst (.str [115, 116, 97, 116, 101]))])]), (.tup [(.cst (.str [115, 101, 116, 116, 108, 101])), (.lst false [(.cst (.str [110]))])]), (.tup [(.cst (.str [115, 112, 108, 105, 99, 101])), (.lst false [(.cst (.str [115, 112, 108, 105, 99, 101]))])]), (.tup [(.cst (.str [114, 101, 118, 101, 97, 108])), (.lst false [(.cst (.str [110]))])])]), (.cst (.str [109, 111, 118, 101])), (.lst false [(.tup [(.cst (.str [108, 111, 99, 107])), (.lst false [(.cst (.str [110])), (.cst (.str [97])), (.cst (.str [104]))])]), (.tup [(.cst (.str [112, 97, 105, 100])), (.lst false [(.cst (.str [110])), (.cst (.str [110]))])]), (.tup [(.cst (.str [100, 114, 111, 112, 112, 101, 100])), (.lst false [(.cst (.str [110]))])]), (.tup [(.cst (.str [98, 97, 99, 107])), (.lst false [(.cst (.str [110]))])]), (.tup [(.cst (.str [116, 114, 97, 110, 115, 102, 101, 114])), (.lst false [(.cst (.str [97]))])]), (.tup [(.cst (.str [102, 105, 110, 105, 115, 104])), (.lst false [])])]), (.cst (.str [119, 111, 114, 100])), (.lst false [(.tup [(.cst (.str [111, 112, 101, 110, 105, 110, 103])), (.lst false [(.cst (.str [111, 112, 101, 110, 105, 110, 103]))])]), (.tup [(.cst (.str [115, 116, 101, 112])), (.lst false [(.cst (.str [110])), (.cst (.str [110])), (.cst (.str [115, 116, 101, 112]))])]), (.tup [(.cst (.str [97, 110, 115, 119, 101, 114])), (.lst false [(.cst (.str [110])), (.cst (.str [110]))])]), (.tup [(.cst (.str [115, 112, 108, 105, 99, 101])), (.lst false [(.cst (.str [115, 112, 108, 105, 99, 101]))])]), (.tup [(.cst (.str [116, 117, 114, 110])), (.lst false [(.cst (.str [110]))])])]), (.cst (.str [119, 105, 115, 104])), (.lst false [(.tup [(.cst (.str [111, 112, 101, 110])), (.lst false [(.cst (.str [111, 112, 101, 110, 105, 110, 103]))])]), (.tup [(.cst (.str [112, 97, 121])), (.lst false [(.cst (.str [110])), (.cst (.str [110])), (.cst (.str [97])), (.cst (.str [104]))])]), (.tup [(.cst (.str [103, 105, 118, 101])), (.lst false [(.cst (.str [110])), (.cst (.str [110])), (.cst (.str [110])), (.cst (.str [97])), (.cst (.str [104]))])]), (.tup [(.cst (.str [114, 101, 102, 117, 115, 101])), (.lst false [(.cst (.str [110])), (.cst (.str [110]))])]), (.tup [(.cst (.str [116, 114, 97, 110, 115, 102, 101, 114])), (.lst false [(.cst (.str [110])), (.cst (.str [97]))])]), (.tup [(.cst (.str [102, 105, 110, 105, 115, 104])), (.lst false [(.cst (.str [110]))])]), (.tup [(.cst (.str [115, 112, 108, 105, 99, 101])), (.lst false [(.cst (.str [115, 112, 108, 105, 99, 101]))])]), (.tup [(.cst (.str [108, 101, 97, 118, 101])), (.lst false [(.cst (.str [110]))])]), (.tup [(.cst (.str [105, 110, 118, 111, 105, 99, 101])), (.lst false [(.cst (.str [110])), (.cst (.str [97]))])])]), (.cst (.str [100, 101, 101, 100])), (.lst false [(.tup [(.cst (.str [111, 102, 102, 101, 114])), (.lst false [(.cst (.str [116, 104, 105, 110, 103]))])]), (.tup [(.cst (.str [115, 97, 121])), (.lst false [(.cst (.str [110])), (.cst (.str [110])), (.cst (.str [119, 111, 114, 100]))])]), (.tup [(.cst (.str [100, 101, 108, 105, 118, 101, 114])), (.lst false [(.cst (.str [110]))])]), (.tup [(.cst (.str [108, 111, 115, 101])), (.lst false [(.cst (.str [110]))])]), (.tup [(.cst (.str [99, 111, 112, 121])), (.lst false [(.cst (.str [110]))])]), (.tup [(.cst (.str [98, 108, 111, 99, 107])), (.lst false [])]), (.tup [(.cst (.str [116, 101, 108, 108])), (.lst false [(.cst (.str [110]))])]), (.tup [(.cst (.str [119, 105, 115, 104])), (.lst false [(.cst (.str [110])), (.cst (.str [119, 105, 115, 104]))])]), (.tup [(.cst (.str [115, 116, 111, 112])), (.lst false [(.cst (.str [110]))])])])]),
    .ife (.op .isin (.var 0) (.var 1)) [.ret (.sub (.var 1) (.var 0))] [],
    .ret (.cst (.non))]
def b26 : List S := [.asg (.name 1) (.dicI [(.cst (.str [110])), (.cst (.int 4294967295)), (.cst (.str [97])), (.op .pow (.cst (.int 10)) (.cst (.int 15))), (.cst (.str [104])), (.op .pow (.cst (.int 10)) (.cst (.int 12))), (.cst (.str [102])), (.op .mul (.cst (.int 3)) (.op .pow (.cst (.int 10)) (.cst (.int 15)))), (.cst (.str [104, 97, 110, 100, 115])), (.cst (.int 4)), (.cst (.str [108, 111, 99, 107, 115])), (.cst (.int 30)), (.cst (.str [115, 116, 101, 112])), (.cst (.int 16))]),
    .ret (.sub (.var 1) (.var 0))]
def b27 : List S := [.ret (.sub (.dicI [(.cst (.str [104, 97, 110, 100, 115])), (.cst (.str [110])), (.cst (.str [108, 111, 99, 107, 115])), (.cst (.str [108, 111, 99, 107])), (.cst (.str [115, 116, 101, 112])), (.cst (.str [109, 111, 118, 101]))]) (.var 0))]
def b28 : List S := [.asg (.name 2) (.op .fdiv (.bf .int false [(.var 1)]) (.cst (.int 7))),
    .ife (.op .eq (.var 0) (.cst (.str [98]))) [.ret (.op .eq (.op .mod (.bf .int false [(.var 1)]) (.cst (.int 2))) (.cst (.int 0)))] [],
    .ife (.op .isin (.var 0) (.tup [(.cst (.str [110])), (.cst (.str [97])), (.cst (.str [104]))])) [.ret (.sub (.lst false [(.cst (.int 0)), (.call 26 [(.var 0)]), (.op .mod (.bf .int false [(.var 2)]) (.cst (.int 9))), (.op .mod (.bf .int false [(.var 2)]) (.op .add (.call 26 [(.var 0)]) (.cst (.int 1))))]) (.op .mod (.bf .int false [(.var 1)]) (.cst (.int 4))))] [],
    .ife (.op .eq (.var 0) (.cst (.str [102]))) [.ret (.sub (.lst false [(.op .sub (.cst (.int 0)) (.call 26 [(.var 0)])), (.call 26 [(.var 0)]), (.op .sub (.op .mod (.bf .int false [(.var 2)]) (.cst (.int 9))) (.cst (.int 4)))]) (.op .mod (.bf .int false [(.var 1)]) (.cst (.int 3))))] [],
    .ife (.op .isin (.var 0) (.tup [(.cst (.str [104, 97, 110, 100, 115])), (.cst (.str [108, 111, 99, 107, 115])), (.cst (.str [115, 116, 101, 112]))])) [.asg (.name 5) (.sub (.lst false [(.cst (.int 0)), (.cst (.int 1)), (.cst (.int 2)), (.call 26 [(.var 0)]), (.cst (.int 1)), (.cst (.int 0)), (.cst (.int 2))]) (.op .mod (.bf .int false [(.var 1)]) (.cst (.int 7)))), .ret (.bf .tuple false [(.comp false (.call 28 [(.call 27 [(.var 0)]), (.op .add (.op .fdiv (.bf .int false [(.var 2)]) (.op .add (.cst (.int 2)) (.var 7))) (.var 7))]) (.name 7) 2 [(.var 5)] [] [7])])] [],
    .asg (.name 3) (.call 24 [(.var 0)]),
    .ife (.op .isnot (.var 3) (.cst (.non))) [.ret (.bf .tuple false [(.comp false (.call 28 [(.sub (.var 3) (.var 7)), (.op .add (.op .fdiv (.bf .int false [(.var 2)]) (.op .add (.cst (.int 1)) (.op .mul (.cst (.int 3)) (.var 7)))) (.var 7))]) (.name 7) 2 [(.bf .len false [(.var 3)])] [] [7])])] [],
    .asg (.name 4) (.call 25 [(.var 0)]),
    .asg (.tup [6, 3]) (.sub (.var 4) (.op .mod (.bf .int false [(.var 1)]) (.bf .len false [(.var 4)]))),
    .ret (.op .add (.tup [(.var 6)]) (.bf .tuple false [(.comp false (.call 28 [(.sub (.var 3) (.var 7)), (.op .add (.op .fdiv (.bf .int false [(.var 2)]) (.op .add (.cst (.int 1)) (.op .mul (.cst (.int 3)) (.var 7)))) (.var 7))]) (.name 7) 2 [(.bf .len false [(.var 3)])] [] [7])]))]
def b29 : List S := [.asg (.name 2) (.call 26 [(.var 0)]),
    .asg (.name 3) (.cst (.int 0)),
    .ife (.op .eq (.var 0) (.cst (.str [102]))) [.asg (.name 3) (.op .sub (.cst (.int 0)) (.var 2))] [],
    .ret (.sub (.lst false [(.op .sub (.var 3) (.cst (.int 1))), (.op .add (.var 2) (.cst (.int 1))), (.cst (.bl true)), (.cst (.non)), (.cst (.str [112, 97, 121])), (.tup []), (.tup [(.cst (.int 1))])]) (.op .mod (.bf .int false [(.var 1)]) (.cst (.int 7))))]
def b30 : List S := [.asg (.name 3) (.op .fdiv (.bf .int false [(.var 2)]) (.cst (.int 5))),
    .ife (.op .eq (.var 0) (.cst (.str [98]))) [.ret (.sub (.lst false [(.cst (.int 0)), (.cst (.int 1)), (.cst (.non)), (.cst (.str [116])), (.tup [])]) (.op .mod (.bf .int false [(.var 2)]) (.cst (.int 5))))] [],
    .ife (.op .isin (.var 0) (.tup [(.cst (.str [110])), (.cst (.str [97])), (.cst (.str [104])), (.cst (.str [102]))])) [.ret (.call 29 [(.var 0), (.var 2)])] [],
    .ife (.op .eq (.op .mod (.bf .int false [(.var 2)]) (.cst (.int 5))) (.cst (.int 0))) [.ret (.sub (.lst false [(.cst (.non)), (.cst (.int 3)), (.cst (.bl true)), (.cst (.str [111, 112, 101, 110]))]) (.op .mod (.bf .int false [(.var 3)]) (.cst (.int 4))))] [],
    .ife (.op .isin (.var 0) (.tup [(.cst (.str [104, 97, 110, 100, 115])), (.cst (.str [108, 111, 99, 107, 115])), (.cst (.str [115, 116, 101, 112]))])) [.ife (.or (.op .eq (.bf .len false [(.var 1)]) (.cst (.int 0))) (.op .eq (.op .mod (.bf .int false [(.var 2)]) (.cst (.int 5))) (.cst (.int 1)))) [.asg (.name 7) (.op .sub (.op .add (.call 26 [(.var 0)]) (.cst (.int 1))) (.bf .len false [(.var 1)])), .ret (.op .add (.var 1) (.bf .tuple false [(.comp false (.call 28 [(.call 27 [(.var 0)]), (.op .fdiv (.bf .int false [(.var 3)]) (.op .add (.cst (.int 2)) (.var 9)))]) (.name 9) 2 [(.var 7)] [] [9])]))] [], .asg (.name 5) (.op .mod (.bf .int false [(.var 3)]) (.bf .len false [(.var 1)])), .ret (.op .add (.op .add (.slice false (.var 1) [] [(.var 5)]) (.tup [(.call 30 [(.call 27 [(.var 0)]), (.sub (.var 1) (.var 5)), (.op .fdiv (.bf .int false [(.var 3)]) (.bf .len false [(.var 1)]))])])) (.slice false (.var 1) [(.op .add (.var 5) (.cst (.int 1)))] []))] [],
    .ife (.op .eq (.op .mod (.bf .int false [(.var 2)]) (.cst (.int 5))) (.cst (.int 1))) [.ret (.slice false (.var 1) [] [(.op .sub (.bf .len false [(.var 1)]) (.cst (.int 1)))])] [],
    .ife (.op .eq (.op .mod (.bf .int false [(.var 2)]) (.cst (.int 5))) (.cst (.int 2))) [.ret (.op .add (.var 1) (.tup [(.cst (.int 0))]))] [],
    .asg (.name 4) (.call 24 [(.var 0)]),
    .ife (.op .is (.var 4) (.cst (.non))) [.asg (.name 6) (.comp false (.var 8) (.name 8) 0 [(.call 25 [(.var 0)])] [(.op .eq (.sub (.var 8) (.cst (.int 0))) (.sub (.var 1) (.cst (.int 0))))] [8]), .asg (.name 4) (.op .add (.lst false [(.cst (.str [110, 97, 109, 101]))]) (.sub (.sub (.var 6) (.cst (.int 0))) (.cst (.int 1))))] [],
    .asg (.name 5) (.op .mod (.bf .int false [(.var 3)]) (.bf .len false [(.var 1)])),
    .ife (.op .eq (.sub (.var 4) (.var 5)) (.cst (.str [110, 97, 109, 101]))) [.ret (.op .add (.tup [(.sub (.lst false [(.cst (.str [120])), (.cst (.int 0)), (.cst (.non)), (.cst (.str [112, 97, 121, 115])), (.tup [])]) (.op .mod (.op .fdiv (.bf .int false [(.var 3)]) (.bf .len false [(.var 1)])) (.cst (.int 5))))]) (.slice false (.var 1) [(.cst (.int 1))] []))] [],
    .ret (.op .add (.op .add (.slice false (.var 1) [] [(.var 5)]) (.tup [(.call 30 [(.sub (.var 4) (.var 5)), (.sub (.var 1) (.var 5)), (.op .fdiv (.bf .int false [(.var 3)]) (.bf .len false [(.var 1)]))])])) (.slice false (.var 1) [(.op .add (.var 5) (.cst (.int 1)))] []))]
def b31 : List S := [.ife (.op .eq (.var 0) (.cst (.str [108, 111, 99, 107]))) [.ret (.call 9 [(.var 1)])] [],
    .ife (.op .eq (.var 0) (.cst (.str [115, 116, 97, 116, 101]))) [.ret (.call 11 [(.var 1)])] [],
    .ife (.op .eq (.var 0) (.cst (.str [111, 112, 101, 110, 105, 110, 103]))) [.ret (.call 12 [(.var 1)])] [],
    .ife (.op .eq (.var 0) (.cst (.str [115, 112, 108, 105, 99, 101]))) [.ret (.call 13 [(.var 1)])] [],
    .ife (.op .eq (.var 0) (.cst (.str [116, 104, 105, 110, 103]))) [.ret (.call 16 [(.var 1)])] [],
    .ife (.op .eq (.var 0) (.cst (.str [97, 99, 116]))) [.ret (.call 14 [(.var 1)])] [],
    .ife (.op .eq (.var 0) (.cst (.str [109, 111, 118, 101]))) [.ret (.call 17 [(.var 1)])] [],
    .ife (.op .eq (.var 0) (.cst (.str [115, 116, 101, 112]))) [.ret (.call 18 [(.var 1)])] [],
    .ife (.op .eq (.var 0) (.cst (.str [119, 111, 114, 100]))) [.ret (.call 19 [(.var 1)])] [],
    .ife (.op .eq (.var 0) (.cst (.str [119, 105, 115, 104]))) [.ret (.call 20 [(.var 1)])] [],
    .ret (.call 21 [(.var 1)])]
def b32 : List S := [.asg (.name 1) (.lst false [(.cst (.str [108, 111, 99, 107])), (.cst (.str [115, 116, 97, 116, 101])), (.cst (.str [111, 112, 101, 110, 105, 110, 103])), (.cst (.str [115, 112, 108, 105, 99, 101])), (.cst (.str [116, 104, 105, 110, 103])), (.cst (.str [97, 99, 116])), (.cst (.str [109, 111, 118, 101])), (.cst (.str [115, 116, 101, 112])), (.cst (.str [119, 111, 114, 100])), (.cst (.str [119, 105, 115, 104])), (.cst (.str [100, 101, 101, 100]))]),
    .loop (.name 2) 2 [(.bf .len false [(.var 1)])] [.asg (.name 3) (.call 22 [(.var 0), (.op .mul (.cst (.int 2)) (.var 2))]), .asg (.name 4) (.call 28 [(.sub (.var 1) (.var 2)), (.var 3)]), .ife (.not (.call 23 [(.call 31 [(.sub (.var 1) (.var 2)), (.var 4)]), (.cst (.bl true))])) [.ret (.cst (.bl false))] [], .loop (.name 5) 2 [(.cst (.int 2))] [.asg (.name 6) (.op .fdiv (.bf .int false [(.call 22 [(.var 0), (.op .add (.op .mul (.cst (.int 2)) (.var 2)) (.cst (.int 1)))])]) (.op .add (.cst (.int 1)) (.op .mul (.cst (.int 11)) (.var 5)))), .ife (.not (.call 23 [(.call 31 [(.sub (.var 1) (.var 2)), (.call 30 [(.sub (.var 1) (.var 2)), (.var 4), (.var 6)])]), (.cst (.bl false))])) [.ret (.cst (.bl false))] []]],
    .ret (.cst (.bl true))]
structure Tab (T : Tb) : Prop where
  f0 : T.fns 0 = some ⟨3, 3, b0⟩
  f1 : T.fns 1 = some ⟨1, 1, b1⟩
  f2 : T.fns 2 = some ⟨1, 1, b2⟩
  f3 : T.fns 3 = some ⟨1, 1, b3⟩
  f4 : T.fns 4 = some ⟨1, 1, b4⟩
  f5 : T.fns 5 = some ⟨1, 1, b5⟩
  f6 : T.fns 6 = some ⟨2, 4, b6⟩
  f7 : T.fns 7 = some ⟨3, 4, b7⟩
  f8 : T.fns 8 = some ⟨1, 1, b8⟩
  f9 : T.fns 9 = some ⟨1, 1, b9⟩
  f10 : T.fns 10 = some ⟨1, 1, b10⟩
  f11 : T.fns 11 = some ⟨1, 1, b11⟩
  f12 : T.fns 12 = some ⟨1, 1, b12⟩
  f13 : T.fns 13 = some ⟨1, 1, b13⟩
  f14 : T.fns 14 = some ⟨1, 1, b14⟩
  f15 : T.fns 15 = some ⟨1, 1, b15⟩
  f16 : T.fns 16 = some ⟨1, 1, b16⟩
  f17 : T.fns 17 = some ⟨1, 1, b17⟩
  f18 : T.fns 18 = some ⟨1, 1, b18⟩
  f19 : T.fns 19 = some ⟨1, 1, b19⟩
  f20 : T.fns 20 = some ⟨1, 1, b20⟩
  f21 : T.fns 21 = some ⟨1, 1, b21⟩
  f22 : T.fns 22 = some ⟨2, 5, b22⟩
  f23 : T.fns 23 = some ⟨2, 2, b23⟩
  f24 : T.fns 24 = some ⟨1, 2, b24⟩
  f25 : T.fns 25 = some ⟨1, 2, b25⟩
  f26 : T.fns 26 = some ⟨1, 2, b26⟩
  f27 : T.fns 27 = some ⟨1, 1, b27⟩
  f28 : T.fns 28 = some ⟨2, 8, b28⟩
  f29 : T.fns 29 = some ⟨2, 4, b29⟩
  f30 : T.fns 30 = some ⟨3, 10, b30⟩
  f31 : T.fns 31 = some ⟨2, 2, b31⟩
  f32 : T.fns 32 = some ⟨1, 7, b32⟩
  fz : ∀ k, k < 24 ∨ 27 < k → T.fz k = false
  fz1 : ∀ k, 24 ≤ k → k ≤ 27 → T.fz k = true
  val : ∀ k, k < 33 → T.val k = true
/-! ### kinds -/
inductive Kd where
  | n | a | h | f | b | hands | locks | step | lock | state | opening | splice | thing | act | move | word | wish | deed
  deriving DecidableEq
open Kd
def nm : Kd → List Nat
  | .n => [110] | .a => [97] | .h => [104] | .f => [102] | .b => [98]
  | .hands => [104, 97, 110, 100, 115] | .locks => [108, 111, 99, 107, 115] | .step => [115, 116, 101, 112]
  | .lock => [108, 111, 99, 107] | .state => [115, 116, 97, 116, 101] | .opening => [111, 112, 101, 110, 105, 110, 103] | .splice => [115, 112, 108, 105, 99, 101] | .thing => [116, 104, 105, 110, 103]
  | .act => [97, 99, 116] | .move => [109, 111, 118, 101] | .word => [119, 111, 114, 100] | .wish => [119, 105, 115, 104] | .deed => [100, 101, 101, 100]
def fnOf : Kd → Nat
  | .n => 1 | .a => 2 | .h => 3 | .f => 4 | .b => 5 | .hands => 15 | .locks => 10 | .step => 18 | .lock => 9 | .state => 11 | .opening => 12 | .splice => 13 | .thing => 16 | .act => 14 | .move => 17 | .word => 19 | .wish => 20 | .deed => 21
def rank : Kd → Nat
  | .n => 0 | .a => 0 | .h => 0 | .f => 0 | .b => 0 | .hands => 1 | .locks => 2 | .step => 2 | .lock => 1 | .state => 3 | .opening => 1 | .splice => 1 | .thing => 5 | .act => 4 | .move => 1 | .word => 3 | .wish => 2 | .deed => 6
inductive Pt where
  | num (lo hi : Int)
  | flag
  | many (m : Nat) (k : Kd)
  | row (ks : List Kd)
  | named (rows : List (List Nat × List Kd))
def parts : Kd → Pt
  | .n => .num 0 4294967295 | .a => .num 0 1000000000000000 | .h => .num 0 1000000000000 | .f => .num (-3000000000000000) 3000000000000000 | .b => .flag
  | .hands => .many 4 .n | .locks => .many 30 .lock | .step => .many 16 .move
  | .lock => .row [n, a, h, b] | .state => .row [n, n, f, f, locks, b] | .opening => .row [n, n, n, a, a, h, h] | .splice => .row [n, n, n, h, a, a, a, a] | .thing => .row [act, hands, n, a, n]
  | .act => .named [([112, 97, 121], [n, a]), ([111, 112, 101, 110], [opening]), ([112, 117, 98, 108, 105, 115, 104], [state]), ([115, 101, 116, 116, 108, 101], [n]), ([115, 112, 108, 105, 99, 101], [splice]), ([114, 101, 118, 101, 97, 108], [n])]
  | .move => .named [([108, 111, 99, 107], [n, a, h]), ([112, 97, 105, 100], [n, n]), ([100, 114, 111, 112, 112, 101, 100], [n]), ([98, 97, 99, 107], [n]), ([116, 114, 97, 110, 115, 102, 101, 114], [a]), ([102, 105, 110, 105, 115, 104], [])]
  | .word => .named [([111, 112, 101, 110, 105, 110, 103], [opening]), ([115, 116, 101, 112], [n, n, step]), ([97, 110, 115, 119, 101, 114], [n, n]), ([115, 112, 108, 105, 99, 101], [splice]), ([116, 117, 114, 110], [n])]
  | .wish => .named [([111, 112, 101, 110], [opening]), ([112, 97, 121], [n, n, a, h]), ([103, 105, 118, 101], [n, n, n, a, h]), ([114, 101, 102, 117, 115, 101], [n, n]), ([116, 114, 97, 110, 115, 102, 101, 114], [n, a]), ([102, 105, 110, 105, 115, 104], [n]), ([115, 112, 108, 105, 99, 101], [splice]), ([108, 101, 97, 118, 101], [n]), ([105, 110, 118, 111, 105, 99, 101], [n, a])]
  | .deed => .named [([111, 102, 102, 101, 114], [thing]), ([115, 97, 121], [n, n, word]), ([100, 101, 108, 105, 118, 101, 114], [n]), ([108, 111, 115, 101], [n]), ([99, 111, 112, 121], [n]), ([98, 108, 111, 99, 107], []), ([116, 101, 108, 108], [n]), ([119, 105, 115, 104], [n, wish]), ([115, 116, 111, 112], [n])]
def below (r : Nat) : Pt → Bool
  | .many _ k => decide (rank k < r)
  | .row ks => ks.all fun k => decide (rank k < r)
  | .named rows => rows.all fun p => p.2.all fun k => decide (rank k < r)
  | _ => true
theorem parts_below (K : Kd) : below (rank K) (parts K) = true := by cases K <;> decide
/-- each with each -/
def okR (f : Kd → Val → Bool) : List Kd → List Val → Bool
  | [], [] => true
  | k :: ks, x :: xs => f k x && okR f ks xs
  | _, _ => false
def okP (g : Kd → Val → Bool) (p : Pt) (v : Val) : Bool := match p with
  | .num lo hi => (match v with
    | .int i => decide (lo ≤ i) && decide (i ≤ hi)
    | _ => false)
  | .flag => (match v with
    | .bl _ => true
    | _ => false)
  | .many m k => (match v with
    | .tup xs => decide (xs.length ≤ m) && xs.all (g k)
    | _ => false)
  | .row ks => (match v with
    | .tup xs => okR g ks xs
    | _ => false)
  | .named rows => (match v with
    | .tup (.str s :: xs) => (match rows.lookup s with
      | some ks => okR g ks xs
      | none => false)
    | _ => false)
def ok : Nat → Kd → Val → Bool
  | 0, _, _ => false
  | z + 1, K, v => okP (ok z) (parts K) v
/-- values without defs and cells -/
inductive Pl : Val → Prop where
  | non : Pl .non
  | bl (b : Bool) : Pl (.bl b)
  | int (i : Int) : Pl (.int i)
  | str (s : List Nat) : Pl (.str s)
  | tup (xs : List Val) : (∀ x ∈ xs, Pl x) → Pl (.tup xs)
theorem okR_pl {g : Kd → Val → Bool} (hg : ∀ k v, g k v = true → Pl v) : ∀ (ks : List Kd) (xs : List Val), okR g ks xs = true → ∀ x ∈ xs, Pl x
  | [], [], _ => fun x hx => by cases hx
  | [], _ :: _, e => by cases e
  | _ :: _, [], e => by cases e
  | k :: ks, x :: xs, e => fun y hy => by
    unfold okR at e
    rw [Bool.and_eq_true] at e
    rcases List.mem_cons.mp hy with rfl | hy
    · exact hg k _ e.1
    · exact okR_pl hg ks xs e.2 y hy
theorem okP_pl {g : Kd → Val → Bool} (hg : ∀ k v, g k v = true → Pl v) (p : Pt) (v : Val) (e : okP g p v = true) : Pl v := by
  unfold okP at e
  cases p with
  | num lo hi => cases v <;> first | exact .int _ | cases e
  | flag => cases v <;> first | exact .bl _ | cases e
  | many m k =>
    cases v with
    | tup xs =>
      simp only [Bool.and_eq_true] at e
      exact .tup _ fun x hx => hg k x (List.all_eq_true.mp e.2 x hx)
    | _ => cases e
  | row ks =>
    cases v with
    | tup xs => exact .tup _ (okR_pl hg ks xs e)
    | _ => cases e
  | named rows =>
    cases v with
    | tup xs =>
      cases xs with
      | nil => cases e
      | cons y ys =>
        cases y with
        | str s =>
          dsimp only at e
          cases q : rows.lookup s with
          | none => rw [q] at e; cases e
          | some ks =>
            rw [q] at e
            exact .tup _ fun x hx => by
              rcases List.mem_cons.mp hx with rfl | hx
              · exact .str s
              · exact okR_pl hg ks ys e x hx
        | _ => cases e
    | _ => cases e
theorem ok_pl : ∀ (z : Nat) (K : Kd) (v : Val), ok z K v = true → Pl v
  | 0, _, _, e => by cases e
  | z + 1, K, v, e => okP_pl (ok_pl z) (parts K) v e
theorem okR_len {g : Kd → Val → Bool} : ∀ (ks : List Kd) (xs : List Val), okR g ks xs = true → xs.length = ks.length
  | [], [], _ => rfl
  | [], _ :: _, e => by cases e
  | _ :: _, [], e => by cases e
  | k :: ks, x :: xs, e => by
    unfold okR at e
    rw [Bool.and_eq_true] at e
    simp [okR_len ks xs e.2]
/-! ### what the functions tell -/
section
variable {T : Tb} (B : Tab T)
include B
omit B in
theorem evE_callV (F : Fns) (i : Nat) (es : List E) (ρ : Env) (h : Heap) (k : Nat) (e : ρ[i]? = some (some (.fn k))) (hv : T.val k = true) : evE T F (.callV i es) ρ h = (evEs T F es ρ h).bind fun vs h => F k vs h := by
  conv => lhs; unfold evE
  rw [e]
  simp only [hv, if_true]
omit B in
theorem evE_gin (F : Fns) (rows : List (List Nat × List Nat)) (a : E) (ρ : Env) (h h' : Heap) (s : List Nat) (e : evE T F a ρ h = .ok (.str s) h') : evE T F (.gin rows a) ρ h = .ok (.bl (rows.lookup s).isSome) h' := by
  conv => lhs; unfold evE
  rw [e]
  rfl
omit B in
theorem evE_gget (F : Fns) (rows : List (List Nat × List Nat)) (a : E) (ρ : Env) (h h' : Heap) (s : List Nat) (ks : List Nat) (e : evE T F a ρ h = .ok (.str s) h') (e2 : rows.lookup s = some ks) : evE T F (.gget rows a) ρ h = .ok (.tup (ks.map .fn)) h' := by
  conv => lhs; unfold evE
  rw [e]
  simp only [Out.bind_ok, e2]
/-- k tells of each value whether it is of this kind -/
def Is (T : Tb) (c k : Nat) (g : Val → Bool) : Prop := ∀ d, c ≤ d → ∀ v, Pl v → ∀ h, callF T d k [v] h = .ok (.bl (g v)) h
theorem whole (d : Nat) (v : Val) (p : Pl v) (g : Kd → Val → Bool) (lo hi : Int) (h : Heap) : callF T (d + 1) 0 [v, .int lo, .int hi] h = .ok (.bl (okP g (.num lo hi) v)) h := by
  rw [callF_n T d 0 _ h _ B.f0 (B.fz 0 (by omega)) rfl]
  have ch : ∀ i : Int, evE T (callF T d) (.chain .le .le (.var 1) (.var 0) (.var 2)) [some (.int i), some (.int lo), some (.int hi)] h = .ok (.bl (decide (lo ≤ i) && decide (i ≤ hi))) h := fun i => by
    rw [evE_chain]
    simp only [evE_var, evE_cst, evE_tup, evE_lst, evE_op, evE_neg, evE_not, evE_and, evE_or, evE_ite, evE_sub, evE_slice, evE_call, evE_callK, evE_bm, evE_bf, evE_isi, evEs_nil, evEs_cons, exS_asg, exS_augN, exS_expr, exS_ret, exS_ife, exB_nil', exB_cons', bind_ok', stm_ok', next_nx', next_rt', bind_exc', stm_exc', next_exc', ifO_t, ifO_f, opt_some, varO_some, laidV_int, laidV_bl, laidV_str, laidV_tup, laidV_lst, retO_rt, retO_nx, v_add, v_sub, v_lt, v_le, v_gt, v_ge, v_eqi, v_nei, t_bl, t_int, ofOpt_some', List.getElem?_cons_zero, List.getElem?_cons_succ, List.set_cons_zero, List.set_cons_succ, List.map_cons, List.map_nil, List.cons_append, List.nil_append, List.replicate_succ, List.replicate_zero, bindTg, setSlots, List.length_cons, List.length_nil, Nat.reduceAdd, Nat.reduceSub, Nat.reduceLT, ↓reduceIte, if_true, bf_int, bf_lent, bf_lenl, bf_lena, sub_t, sub_l, sub_a]
    cases decide (lo ≤ i) <;> rfl
  cases p with
  | non => simp only [b0, evE_var, evE_cst, evE_tup, evE_lst, evE_op, evE_neg, evE_not, evE_and, evE_or, evE_ite, evE_sub, evE_slice, evE_call, evE_callK, evE_bm, evE_bf, evE_isi, evEs_nil, evEs_cons, exS_asg, exS_augN, exS_expr, exS_ret, exS_ife, exB_nil', exB_cons', bind_ok', stm_ok', next_nx', next_rt', bind_exc', stm_exc', next_exc', ifO_t, ifO_f, opt_some, varO_some, laidV_int, laidV_bl, laidV_str, laidV_tup, laidV_lst, retO_rt, retO_nx, v_add, v_sub, v_lt, v_le, v_gt, v_ge, v_eqi, v_nei, t_bl, t_int, ofOpt_some', List.getElem?_cons_zero, List.getElem?_cons_succ, List.set_cons_zero, List.set_cons_succ, List.map_cons, List.map_nil, List.cons_append, List.nil_append, List.replicate_succ, List.replicate_zero, bindTg, setSlots, List.length_cons, List.length_nil, Nat.reduceAdd, Nat.reduceSub, Nat.reduceLT, ↓reduceIte, if_true, bf_int, bf_lent, bf_lenl, bf_lena, sub_t, sub_l, sub_a, isiV, Option.map_some, okP]
  | bl b => simp only [b0, evE_var, evE_cst, evE_tup, evE_lst, evE_op, evE_neg, evE_not, evE_and, evE_or, evE_ite, evE_sub, evE_slice, evE_call, evE_callK, evE_bm, evE_bf, evE_isi, evEs_nil, evEs_cons, exS_asg, exS_augN, exS_expr, exS_ret, exS_ife, exB_nil', exB_cons', bind_ok', stm_ok', next_nx', next_rt', bind_exc', stm_exc', next_exc', ifO_t, ifO_f, opt_some, varO_some, laidV_int, laidV_bl, laidV_str, laidV_tup, laidV_lst, retO_rt, retO_nx, v_add, v_sub, v_lt, v_le, v_gt, v_ge, v_eqi, v_nei, t_bl, t_int, ofOpt_some', List.getElem?_cons_zero, List.getElem?_cons_succ, List.set_cons_zero, List.set_cons_succ, List.map_cons, List.map_nil, List.cons_append, List.nil_append, List.replicate_succ, List.replicate_zero, bindTg, setSlots, List.length_cons, List.length_nil, Nat.reduceAdd, Nat.reduceSub, Nat.reduceLT, ↓reduceIte, if_true, bf_int, bf_lent, bf_lenl, bf_lena, sub_t, sub_l, sub_a, isiV, Option.map_some, Bool.not_true, okP]
  | int i => simp only [b0, evE_var, evE_cst, evE_tup, evE_lst, evE_op, evE_neg, evE_not, evE_and, evE_or, evE_ite, evE_sub, evE_slice, evE_call, evE_callK, evE_bm, evE_bf, evE_isi, evEs_nil, evEs_cons, exS_asg, exS_augN, exS_expr, exS_ret, exS_ife, exB_nil', exB_cons', bind_ok', stm_ok', next_nx', next_rt', bind_exc', stm_exc', next_exc', ifO_t, ifO_f, opt_some, varO_some, laidV_int, laidV_bl, laidV_str, laidV_tup, laidV_lst, retO_rt, retO_nx, v_add, v_sub, v_lt, v_le, v_gt, v_ge, v_eqi, v_nei, t_bl, t_int, ofOpt_some', List.getElem?_cons_zero, List.getElem?_cons_succ, List.set_cons_zero, List.set_cons_succ, List.map_cons, List.map_nil, List.cons_append, List.nil_append, List.replicate_succ, List.replicate_zero, bindTg, setSlots, List.length_cons, List.length_nil, Nat.reduceAdd, Nat.reduceSub, Nat.reduceLT, ↓reduceIte, if_true, bf_int, bf_lent, bf_lenl, bf_lena, sub_t, sub_l, sub_a, isiV, Option.map_some, Bool.not_false, ch, okP]
  | str s => simp only [b0, evE_var, evE_cst, evE_tup, evE_lst, evE_op, evE_neg, evE_not, evE_and, evE_or, evE_ite, evE_sub, evE_slice, evE_call, evE_callK, evE_bm, evE_bf, evE_isi, evEs_nil, evEs_cons, exS_asg, exS_augN, exS_expr, exS_ret, exS_ife, exB_nil', exB_cons', bind_ok', stm_ok', next_nx', next_rt', bind_exc', stm_exc', next_exc', ifO_t, ifO_f, opt_some, varO_some, laidV_int, laidV_bl, laidV_str, laidV_tup, laidV_lst, retO_rt, retO_nx, v_add, v_sub, v_lt, v_le, v_gt, v_ge, v_eqi, v_nei, t_bl, t_int, ofOpt_some', List.getElem?_cons_zero, List.getElem?_cons_succ, List.set_cons_zero, List.set_cons_succ, List.map_cons, List.map_nil, List.cons_append, List.nil_append, List.replicate_succ, List.replicate_zero, bindTg, setSlots, List.length_cons, List.length_nil, Nat.reduceAdd, Nat.reduceSub, Nat.reduceLT, ↓reduceIte, if_true, bf_int, bf_lent, bf_lenl, bf_lena, sub_t, sub_l, sub_a, isiV, Option.map_some, okP]
  | tup xs _ => simp only [b0, evE_var, evE_cst, evE_tup, evE_lst, evE_op, evE_neg, evE_not, evE_and, evE_or, evE_ite, evE_sub, evE_slice, evE_call, evE_callK, evE_bm, evE_bf, evE_isi, evEs_nil, evEs_cons, exS_asg, exS_augN, exS_expr, exS_ret, exS_ife, exB_nil', exB_cons', bind_ok', stm_ok', next_nx', next_rt', bind_exc', stm_exc', next_exc', ifO_t, ifO_f, opt_some, varO_some, laidV_int, laidV_bl, laidV_str, laidV_tup, laidV_lst, retO_rt, retO_nx, v_add, v_sub, v_lt, v_le, v_gt, v_ge, v_eqi, v_nei, t_bl, t_int, ofOpt_some', List.getElem?_cons_zero, List.getElem?_cons_succ, List.set_cons_zero, List.set_cons_succ, List.map_cons, List.map_nil, List.cons_append, List.nil_append, List.replicate_succ, List.replicate_zero, bindTg, setSlots, List.length_cons, List.length_nil, Nat.reduceAdd, Nat.reduceSub, Nat.reduceLT, ↓reduceIte, if_true, bf_int, bf_lent, bf_lenl, bf_lena, sub_t, sub_l, sub_a, isiV, Option.map_some, okP]
theorem row_loop (F : Fns) (c : Nat) (g : Kd → Val → Bool) (h h0 : Heap) (w1 w2 : Val) (a b : Option Val) (st : ∀ h', h' = h → stays h0 h' [w1, w2]) : ∀ (ks : List Kd) (xs : List Val) (k2 k3 : Option Val), ks.length = xs.length → (∀ k ∈ ks, ∀ x ∈ xs, F (fnOf k) [x] h = .ok (.bl (g k x)) h) →
    (∃ e1 e2, forL (fun h' => stays h0 h' [w1, w2]) (fun v ρ h => opt (bindTg ρ (.tup [2, 3]) v) (fun ρ' => exB T F [.ife (.not (.callV 2 [(.var 3)])) [.ret (.cst (.bl false))] []] ρ' h) .bad) (zipV (ks.map fun k => .fn (fnOf k)) xs) [a, b, k2, k3] h = .nx [a, b, e1, e2] h ∧ okR g ks xs = true) ∨
    (forL (fun h' => stays h0 h' [w1, w2]) (fun v ρ h => opt (bindTg ρ (.tup [2, 3]) v) (fun ρ' => exB T F [.ife (.not (.callV 2 [(.var 3)])) [.ret (.cst (.bl false))] []] ρ' h) .bad) (zipV (ks.map fun k => .fn (fnOf k)) xs) [a, b, k2, k3] h = .rt (.bl false) h ∧ okR g ks xs = false) := by
  intro ks
  induction ks with
  | nil =>
    intro xs k2 k3 hl _
    cases xs with
    | nil => exact .inl ⟨k2, k3, rfl, rfl⟩
    | cons x xs => cases hl
  | cons k ks ih =>
    intro xs k2 k3 hl hF
    cases xs with
    | nil => cases hl
    | cons x xs =>
      have e1 := hF k (by simp) x (by simp)
      have hv : T.val (fnOf k) = true := B.val _ (by cases k <;> decide)
      have cv : evE T F (.callV 2 [(.var 3)]) [a, b, some (.fn (fnOf k)), some x] h = .ok (.bl (g k x)) h := by
        rw [evE_callV (T := T) F 2 _ _ h (fnOf k) rfl hv]
        simp only [evE_var, evE_cst, evE_tup, evE_lst, evE_op, evE_neg, evE_not, evE_and, evE_or, evE_ite, evE_sub, evE_slice, evE_call, evE_callK, evE_bm, evE_bf, evE_isi, evEs_nil, evEs_cons, exS_asg, exS_augN, exS_expr, exS_ret, exS_ife, exB_nil', exB_cons', bind_ok', stm_ok', next_nx', next_rt', bind_exc', stm_exc', next_exc', ifO_t, ifO_f, opt_some, varO_some, laidV_int, laidV_bl, laidV_str, laidV_tup, laidV_lst, retO_rt, retO_nx, v_add, v_sub, v_lt, v_le, v_gt, v_ge, v_eqi, v_nei, t_bl, t_int, ofOpt_some', List.getElem?_cons_zero, List.getElem?_cons_succ, List.set_cons_zero, List.set_cons_succ, List.map_cons, List.map_nil, List.cons_append, List.nil_append, List.replicate_succ, List.replicate_zero, bindTg, setSlots, List.length_cons, List.length_nil, Nat.reduceAdd, Nat.reduceSub, Nat.reduceLT, ↓reduceIte, if_true, bf_int, bf_lent, bf_lenl, bf_lena, sub_t, sub_l, sub_a, e1]
      show _ ∨ (forL _ _ (.tup [.fn (fnOf k), x] :: zipV _ xs) _ _ = _ ∧ _)
      cases eg : g k x with
      | true =>
        rw [eg] at cv
        have bd : ∀ (k2 k3 : Option Val), bindTg [a, b, k2, k3] (.tup [2, 3]) (.tup [.fn (fnOf k), x]) = some [a, b, some (.fn (fnOf k)), some x] := fun _ _ => rfl
        have tn : opt (bindTg [a, b, k2, k3] (.tup [2, 3]) (.tup [.fn (fnOf k), x])) (fun ρ' => exB T F [.ife (.not (.callV 2 [(.var 3)])) [.ret (.cst (.bl false))] []] ρ' h) .bad = .nx [a, b, some (.fn (fnOf k)), some x] h := by
          rw [bd]
          simp only [evE_var, evE_cst, evE_tup, evE_lst, evE_op, evE_neg, evE_not, evE_and, evE_or, evE_ite, evE_sub, evE_slice, evE_call, evE_callK, evE_bm, evE_bf, evE_isi, evEs_nil, evEs_cons, exS_asg, exS_augN, exS_expr, exS_ret, exS_ife, exB_nil', exB_cons', bind_ok', stm_ok', next_nx', next_rt', bind_exc', stm_exc', next_exc', ifO_t, ifO_f, opt_some, varO_some, laidV_int, laidV_bl, laidV_str, laidV_tup, laidV_lst, retO_rt, retO_nx, v_add, v_sub, v_lt, v_le, v_gt, v_ge, v_eqi, v_nei, t_bl, t_int, ofOpt_some', List.getElem?_cons_zero, List.getElem?_cons_succ, List.set_cons_zero, List.set_cons_succ, List.map_cons, List.map_nil, List.cons_append, List.nil_append, List.replicate_succ, List.replicate_zero, bindTg, setSlots, List.length_cons, List.length_nil, Nat.reduceAdd, Nat.reduceSub, Nat.reduceLT, ↓reduceIte, if_true, bf_int, bf_lent, bf_lenl, bf_lena, sub_t, sub_l, sub_a, cv, Bool.not_true]
        have eo : okR g (k :: ks) (x :: xs) = okR g ks xs := by
          conv => lhs; unfold okR
          rw [eg]
          rfl
        rw [eo]
        have ef := forL_nx (r := zipV (ks.map fun k => Val.fn (fnOf k)) xs) (G := fun h' => stays h0 h' [w1, w2]) (body := fun v ρ h => opt (bindTg ρ (.tup [2, 3]) v) (fun ρ' => exB T F [.ife (.not (.callV 2 [(.var 3)])) [.ret (.cst (.bl false))] []] ρ' h) .bad) tn (st h rfl)
        rcases ih xs (some (.fn (fnOf k))) (some x) (by simpa using hl) (fun k hk x hx => hF k (List.mem_cons_of_mem _ hk) x (List.mem_cons_of_mem _ hx)) with ⟨p1, p2, q1, q2⟩ | ⟨q1, q2⟩
        · exact .inl ⟨p1, p2, ef.trans q1, q2⟩
        · exact .inr ⟨ef.trans q1, q2⟩
      | false =>
        rw [eg] at cv
        have bd : ∀ (k2 k3 : Option Val), bindTg [a, b, k2, k3] (.tup [2, 3]) (.tup [.fn (fnOf k), x]) = some [a, b, some (.fn (fnOf k)), some x] := fun _ _ => rfl
        refine .inr ⟨forL_rt ?_, by unfold okR; rw [eg]; rfl⟩
        rw [bd]
        simp only [evE_var, evE_cst, evE_tup, evE_lst, evE_op, evE_neg, evE_not, evE_and, evE_or, evE_ite, evE_sub, evE_slice, evE_call, evE_callK, evE_bm, evE_bf, evE_isi, evEs_nil, evEs_cons, exS_asg, exS_augN, exS_expr, exS_ret, exS_ife, exB_nil', exB_cons', bind_ok', stm_ok', next_nx', next_rt', bind_exc', stm_exc', next_exc', ifO_t, ifO_f, opt_some, varO_some, laidV_int, laidV_bl, laidV_str, laidV_tup, laidV_lst, retO_rt, retO_nx, v_add, v_sub, v_lt, v_le, v_gt, v_ge, v_eqi, v_nei, t_bl, t_int, ofOpt_some', List.getElem?_cons_zero, List.getElem?_cons_succ, List.set_cons_zero, List.set_cons_succ, List.map_cons, List.map_nil, List.cons_append, List.nil_append, List.replicate_succ, List.replicate_zero, bindTg, setSlots, List.length_cons, List.length_nil, Nat.reduceAdd, Nat.reduceSub, Nat.reduceLT, ↓reduceIte, if_true, bf_int, bf_lent, bf_lenl, bf_lena, sub_t, sub_l, sub_a, cv, Bool.not_false]
theorem is_row (d : Nat) (g : Kd → Val → Bool) (ks : List Kd) (v : Val) (p : Pl v) (h : Heap) (hF : ∀ k ∈ ks, ∀ x, Pl x → callF T d (fnOf k) [x] h = .ok (.bl (g k x)) h) :
    callF T (d + 1) 6 [v, .tup (ks.map fun k => .fn (fnOf k))] h = .ok (.bl (okP g (.row ks) v)) h := by
  rw [callF_n T d 6 _ h _ B.f6 (B.fz 6 (by omega)) rfl]
  cases p with
  | non => simp only [b6, evE_var, evE_cst, evE_tup, evE_lst, evE_op, evE_neg, evE_not, evE_and, evE_or, evE_ite, evE_sub, evE_slice, evE_call, evE_callK, evE_bm, evE_bf, evE_isi, evEs_nil, evEs_cons, exS_asg, exS_augN, exS_expr, exS_ret, exS_ife, exB_nil', exB_cons', bind_ok', stm_ok', next_nx', next_rt', bind_exc', stm_exc', next_exc', ifO_t, ifO_f, opt_some, varO_some, laidV_int, laidV_bl, laidV_str, laidV_tup, laidV_lst, retO_rt, retO_nx, v_add, v_sub, v_lt, v_le, v_gt, v_ge, v_eqi, v_nei, t_bl, t_int, ofOpt_some', List.getElem?_cons_zero, List.getElem?_cons_succ, List.set_cons_zero, List.set_cons_succ, List.map_cons, List.map_nil, List.cons_append, List.nil_append, List.replicate_succ, List.replicate_zero, bindTg, setSlots, List.length_cons, List.length_nil, Nat.reduceAdd, Nat.reduceSub, Nat.reduceLT, ↓reduceIte, if_true, bf_int, bf_lent, bf_lenl, bf_lena, sub_t, sub_l, sub_a, isiV, Option.map_some, Bool.not_false, okP]
  | bl b => simp only [b6, evE_var, evE_cst, evE_tup, evE_lst, evE_op, evE_neg, evE_not, evE_and, evE_or, evE_ite, evE_sub, evE_slice, evE_call, evE_callK, evE_bm, evE_bf, evE_isi, evEs_nil, evEs_cons, exS_asg, exS_augN, exS_expr, exS_ret, exS_ife, exB_nil', exB_cons', bind_ok', stm_ok', next_nx', next_rt', bind_exc', stm_exc', next_exc', ifO_t, ifO_f, opt_some, varO_some, laidV_int, laidV_bl, laidV_str, laidV_tup, laidV_lst, retO_rt, retO_nx, v_add, v_sub, v_lt, v_le, v_gt, v_ge, v_eqi, v_nei, t_bl, t_int, ofOpt_some', List.getElem?_cons_zero, List.getElem?_cons_succ, List.set_cons_zero, List.set_cons_succ, List.map_cons, List.map_nil, List.cons_append, List.nil_append, List.replicate_succ, List.replicate_zero, bindTg, setSlots, List.length_cons, List.length_nil, Nat.reduceAdd, Nat.reduceSub, Nat.reduceLT, ↓reduceIte, if_true, bf_int, bf_lent, bf_lenl, bf_lena, sub_t, sub_l, sub_a, isiV, Option.map_some, Bool.not_false, okP]
  | int i => simp only [b6, evE_var, evE_cst, evE_tup, evE_lst, evE_op, evE_neg, evE_not, evE_and, evE_or, evE_ite, evE_sub, evE_slice, evE_call, evE_callK, evE_bm, evE_bf, evE_isi, evEs_nil, evEs_cons, exS_asg, exS_augN, exS_expr, exS_ret, exS_ife, exB_nil', exB_cons', bind_ok', stm_ok', next_nx', next_rt', bind_exc', stm_exc', next_exc', ifO_t, ifO_f, opt_some, varO_some, laidV_int, laidV_bl, laidV_str, laidV_tup, laidV_lst, retO_rt, retO_nx, v_add, v_sub, v_lt, v_le, v_gt, v_ge, v_eqi, v_nei, t_bl, t_int, ofOpt_some', List.getElem?_cons_zero, List.getElem?_cons_succ, List.set_cons_zero, List.set_cons_succ, List.map_cons, List.map_nil, List.cons_append, List.nil_append, List.replicate_succ, List.replicate_zero, bindTg, setSlots, List.length_cons, List.length_nil, Nat.reduceAdd, Nat.reduceSub, Nat.reduceLT, ↓reduceIte, if_true, bf_int, bf_lent, bf_lenl, bf_lena, sub_t, sub_l, sub_a, isiV, Option.map_some, Bool.not_false, okP]
  | str s => simp only [b6, evE_var, evE_cst, evE_tup, evE_lst, evE_op, evE_neg, evE_not, evE_and, evE_or, evE_ite, evE_sub, evE_slice, evE_call, evE_callK, evE_bm, evE_bf, evE_isi, evEs_nil, evEs_cons, exS_asg, exS_augN, exS_expr, exS_ret, exS_ife, exB_nil', exB_cons', bind_ok', stm_ok', next_nx', next_rt', bind_exc', stm_exc', next_exc', ifO_t, ifO_f, opt_some, varO_some, laidV_int, laidV_bl, laidV_str, laidV_tup, laidV_lst, retO_rt, retO_nx, v_add, v_sub, v_lt, v_le, v_gt, v_ge, v_eqi, v_nei, t_bl, t_int, ofOpt_some', List.getElem?_cons_zero, List.getElem?_cons_succ, List.set_cons_zero, List.set_cons_succ, List.map_cons, List.map_nil, List.cons_append, List.nil_append, List.replicate_succ, List.replicate_zero, bindTg, setSlots, List.length_cons, List.length_nil, Nat.reduceAdd, Nat.reduceSub, Nat.reduceLT, ↓reduceIte, if_true, bf_int, bf_lent, bf_lenl, bf_lena, sub_t, sub_l, sub_a, isiV, Option.map_some, Bool.not_false, okP]
  | tup xs hx =>
    by_cases hl : ks.length = xs.length
    · have d1 : ((xs.length : Int) == ((ks.map fun k => Val.fn (fnOf k)).length : Int)) = true := by rw [List.length_map, hl]; simp
      have wk : walkV h 5 [.tup (ks.map fun k => .fn (fnOf k)), .tup xs] = some (zipV (ks.map fun k => .fn (fnOf k)) xs) := rfl
      rcases row_loop B (callF T d) 0 g h h (.tup (ks.map fun k => .fn (fnOf k))) (.tup xs) (some (.tup xs)) (some (.tup (ks.map fun k => .fn (fnOf k)))) (fun h' e => by subst e; exact trivial) ks xs none none hl (fun k hk x hm => hF k hk x (hx x hm)) with ⟨e1, e2, q1, q2⟩ | ⟨q1, q2⟩
      · have el := loop_of (T := T) (F := callF T d) (tg := .tup [2, 3]) (w := 5) (it := [.var 1, .var 0]) (ρ := [some (.tup xs), some (.tup (ks.map fun k => .fn (fnOf k))), none, none]) (h := h) (by decide) (by simp only [evE_var, evE_cst, evE_tup, evE_lst, evE_op, evE_neg, evE_not, evE_and, evE_or, evE_ite, evE_sub, evE_slice, evE_call, evE_callK, evE_bm, evE_bf, evE_isi, evEs_nil, evEs_cons, exS_asg, exS_augN, exS_expr, exS_ret, exS_ife, exB_nil', exB_cons', bind_ok', stm_ok', next_nx', next_rt', bind_exc', stm_exc', next_exc', ifO_t, ifO_f, opt_some, varO_some, laidV_int, laidV_bl, laidV_str, laidV_tup, laidV_lst, retO_rt, retO_nx, v_add, v_sub, v_lt, v_le, v_gt, v_ge, v_eqi, v_nei, t_bl, t_int, ofOpt_some', List.getElem?_cons_zero, List.getElem?_cons_succ, List.set_cons_zero, List.set_cons_succ, List.map_cons, List.map_nil, List.cons_append, List.nil_append, List.replicate_succ, List.replicate_zero, bindTg, setSlots, List.length_cons, List.length_nil, Nat.reduceAdd, Nat.reduceSub, Nat.reduceLT, ↓reduceIte, if_true, bf_int, bf_lent, bf_lenl, bf_lena, sub_t, sub_l, sub_a]) wk q1
        simp only [b6, evE_var, evE_cst, evE_tup, evE_lst, evE_op, evE_neg, evE_not, evE_and, evE_or, evE_ite, evE_sub, evE_slice, evE_call, evE_callK, evE_bm, evE_bf, evE_isi, evEs_nil, evEs_cons, exS_asg, exS_augN, exS_expr, exS_ret, exS_ife, exB_nil', exB_cons', bind_ok', stm_ok', next_nx', next_rt', bind_exc', stm_exc', next_exc', ifO_t, ifO_f, opt_some, varO_some, laidV_int, laidV_bl, laidV_str, laidV_tup, laidV_lst, retO_rt, retO_nx, v_add, v_sub, v_lt, v_le, v_gt, v_ge, v_eqi, v_nei, t_bl, t_int, ofOpt_some', List.getElem?_cons_zero, List.getElem?_cons_succ, List.set_cons_zero, List.set_cons_succ, List.map_cons, List.map_nil, List.cons_append, List.nil_append, List.replicate_succ, List.replicate_zero, bindTg, setSlots, List.length_cons, List.length_nil, Nat.reduceAdd, Nat.reduceSub, Nat.reduceLT, ↓reduceIte, if_true, bf_int, bf_lent, bf_lenl, bf_lena, sub_t, sub_l, sub_a, isiV, Option.map_some, Bool.not_true, d1, el, okP, q2]
      · have el := loop_of (T := T) (F := callF T d) (tg := .tup [2, 3]) (w := 5) (it := [.var 1, .var 0]) (ρ := [some (.tup xs), some (.tup (ks.map fun k => .fn (fnOf k))), none, none]) (h := h) (by decide) (by simp only [evE_var, evE_cst, evE_tup, evE_lst, evE_op, evE_neg, evE_not, evE_and, evE_or, evE_ite, evE_sub, evE_slice, evE_call, evE_callK, evE_bm, evE_bf, evE_isi, evEs_nil, evEs_cons, exS_asg, exS_augN, exS_expr, exS_ret, exS_ife, exB_nil', exB_cons', bind_ok', stm_ok', next_nx', next_rt', bind_exc', stm_exc', next_exc', ifO_t, ifO_f, opt_some, varO_some, laidV_int, laidV_bl, laidV_str, laidV_tup, laidV_lst, retO_rt, retO_nx, v_add, v_sub, v_lt, v_le, v_gt, v_ge, v_eqi, v_nei, t_bl, t_int, ofOpt_some', List.getElem?_cons_zero, List.getElem?_cons_succ, List.set_cons_zero, List.set_cons_succ, List.map_cons, List.map_nil, List.cons_append, List.nil_append, List.replicate_succ, List.replicate_zero, bindTg, setSlots, List.length_cons, List.length_nil, Nat.reduceAdd, Nat.reduceSub, Nat.reduceLT, ↓reduceIte, if_true, bf_int, bf_lent, bf_lenl, bf_lena, sub_t, sub_l, sub_a]) wk q1
        simp only [b6, evE_var, evE_cst, evE_tup, evE_lst, evE_op, evE_neg, evE_not, evE_and, evE_or, evE_ite, evE_sub, evE_slice, evE_call, evE_callK, evE_bm, evE_bf, evE_isi, evEs_nil, evEs_cons, exS_asg, exS_augN, exS_expr, exS_ret, exS_ife, exB_nil', exB_cons', bind_ok', stm_ok', next_nx', next_rt', bind_exc', stm_exc', next_exc', ifO_t, ifO_f, opt_some, varO_some, laidV_int, laidV_bl, laidV_str, laidV_tup, laidV_lst, retO_rt, retO_nx, v_add, v_sub, v_lt, v_le, v_gt, v_ge, v_eqi, v_nei, t_bl, t_int, ofOpt_some', List.getElem?_cons_zero, List.getElem?_cons_succ, List.set_cons_zero, List.set_cons_succ, List.map_cons, List.map_nil, List.cons_append, List.nil_append, List.replicate_succ, List.replicate_zero, bindTg, setSlots, List.length_cons, List.length_nil, Nat.reduceAdd, Nat.reduceSub, Nat.reduceLT, ↓reduceIte, if_true, bf_int, bf_lent, bf_lenl, bf_lena, sub_t, sub_l, sub_a, isiV, Option.map_some, Bool.not_true, d1, el, okP, q2]
    · have d1 : ((xs.length : Int) == ((ks.map fun k => Val.fn (fnOf k)).length : Int)) = false := by rw [beq_eq_false_iff_ne, List.length_map]; omega
      have : okR g ks xs = false := by
        cases e : okR g ks xs with
        | false => rfl
        | true => exact absurd (okR_len ks xs e).symm hl
      simp only [b6, evE_var, evE_cst, evE_tup, evE_lst, evE_op, evE_neg, evE_not, evE_and, evE_or, evE_ite, evE_sub, evE_slice, evE_call, evE_callK, evE_bm, evE_bf, evE_isi, evEs_nil, evEs_cons, exS_asg, exS_augN, exS_expr, exS_ret, exS_ife, exB_nil', exB_cons', bind_ok', stm_ok', next_nx', next_rt', bind_exc', stm_exc', next_exc', ifO_t, ifO_f, opt_some, varO_some, laidV_int, laidV_bl, laidV_str, laidV_tup, laidV_lst, retO_rt, retO_nx, v_add, v_sub, v_lt, v_le, v_gt, v_ge, v_eqi, v_nei, t_bl, t_int, ofOpt_some', List.getElem?_cons_zero, List.getElem?_cons_succ, List.set_cons_zero, List.set_cons_succ, List.map_cons, List.map_nil, List.cons_append, List.nil_append, List.replicate_succ, List.replicate_zero, bindTg, setSlots, List.length_cons, List.length_nil, Nat.reduceAdd, Nat.reduceSub, Nat.reduceLT, ↓reduceIte, if_true, bf_int, bf_lent, bf_lenl, bf_lena, sub_t, sub_l, sub_a, isiV, Option.map_some, Bool.not_true, d1, Bool.not_false, okP, this]
theorem list_loop (F : Fns) (k : Nat) (g : Val → Bool) (hv : T.val k = true) (h h0 : Heap) (ws : List Val) (a c : Option Val) : ∀ (xs : List Val) (k3 : Option Val), (∀ x ∈ xs, F k [x] h = .ok (.bl (g x)) h) →
    (∃ e1, forL (fun h' => stays h0 h' [.tup ws]) (fun v ρ h => opt (bindTg ρ (.name 3) v) (fun ρ' => exB T F [.ife (.not (.callV 1 [(.var 3)])) [.ret (.cst (.bl false))] []] ρ' h) .bad) xs [a, some (.fn k), c, k3] h = .nx [a, some (.fn k), c, e1] h ∧ xs.all g = true) ∨
    (forL (fun h' => stays h0 h' [.tup ws]) (fun v ρ h => opt (bindTg ρ (.name 3) v) (fun ρ' => exB T F [.ife (.not (.callV 1 [(.var 3)])) [.ret (.cst (.bl false))] []] ρ' h) .bad) xs [a, some (.fn k), c, k3] h = .rt (.bl false) h ∧ xs.all g = false) := by
  intro xs
  induction xs with
  | nil => exact fun k3 _ => .inl ⟨k3, rfl, rfl⟩
  | cons x xs ih =>
    intro k3 hF
    have e1 := hF x (by simp)
    have cv : evE T F (.callV 1 [(.var 3)]) [a, some (.fn k), c, some x] h = .ok (.bl (g x)) h := by
      rw [evE_callV (T := T) F 1 _ _ h k rfl hv]
      simp only [evE_var, evE_cst, evE_tup, evE_lst, evE_op, evE_neg, evE_not, evE_and, evE_or, evE_ite, evE_sub, evE_slice, evE_call, evE_callK, evE_bm, evE_bf, evE_isi, evEs_nil, evEs_cons, exS_asg, exS_augN, exS_expr, exS_ret, exS_ife, exB_nil', exB_cons', bind_ok', stm_ok', next_nx', next_rt', bind_exc', stm_exc', next_exc', ifO_t, ifO_f, opt_some, varO_some, laidV_int, laidV_bl, laidV_str, laidV_tup, laidV_lst, retO_rt, retO_nx, v_add, v_sub, v_lt, v_le, v_gt, v_ge, v_eqi, v_nei, t_bl, t_int, ofOpt_some', List.getElem?_cons_zero, List.getElem?_cons_succ, List.set_cons_zero, List.set_cons_succ, List.map_cons, List.map_nil, List.cons_append, List.nil_append, List.replicate_succ, List.replicate_zero, bindTg, setSlots, List.length_cons, List.length_nil, Nat.reduceAdd, Nat.reduceSub, Nat.reduceLT, ↓reduceIte, if_true, bf_int, bf_lent, bf_lenl, bf_lena, sub_t, sub_l, sub_a, e1]
    cases eg : g x with
    | true =>
      rw [eg] at cv
      have tn : opt (bindTg [a, some (.fn k), c, k3] (.name 3) x) (fun ρ' => exB T F [.ife (.not (.callV 1 [(.var 3)])) [.ret (.cst (.bl false))] []] ρ' h) .bad = .nx [a, some (.fn k), c, some x] h := by
        simp only [evE_var, evE_cst, evE_tup, evE_lst, evE_op, evE_neg, evE_not, evE_and, evE_or, evE_ite, evE_sub, evE_slice, evE_call, evE_callK, evE_bm, evE_bf, evE_isi, evEs_nil, evEs_cons, exS_asg, exS_augN, exS_expr, exS_ret, exS_ife, exB_nil', exB_cons', bind_ok', stm_ok', next_nx', next_rt', bind_exc', stm_exc', next_exc', ifO_t, ifO_f, opt_some, varO_some, laidV_int, laidV_bl, laidV_str, laidV_tup, laidV_lst, retO_rt, retO_nx, v_add, v_sub, v_lt, v_le, v_gt, v_ge, v_eqi, v_nei, t_bl, t_int, ofOpt_some', List.getElem?_cons_zero, List.getElem?_cons_succ, List.set_cons_zero, List.set_cons_succ, List.map_cons, List.map_nil, List.cons_append, List.nil_append, List.replicate_succ, List.replicate_zero, bindTg, setSlots, List.length_cons, List.length_nil, Nat.reduceAdd, Nat.reduceSub, Nat.reduceLT, ↓reduceIte, if_true, bf_int, bf_lent, bf_lenl, bf_lena, sub_t, sub_l, sub_a, cv, Bool.not_true]
      have ef := forL_nx (r := xs) (G := fun h' => stays h0 h' [.tup ws]) (body := fun v ρ h => opt (bindTg ρ (.name 3) v) (fun ρ' => exB T F [.ife (.not (.callV 1 [(.var 3)])) [.ret (.cst (.bl false))] []] ρ' h) .bad) tn stays_tup
      rcases ih (some x) (fun x hx => hF x (List.mem_cons_of_mem _ hx)) with ⟨p1, q1, q2⟩ | ⟨q1, q2⟩
      · exact .inl ⟨p1, ef.trans q1, by rw [List.all_cons, eg, q2]; rfl⟩
      · exact .inr ⟨ef.trans q1, by rw [List.all_cons, eg, q2]; rfl⟩
    | false =>
      rw [eg] at cv
      refine .inr ⟨forL_rt ?_, by rw [List.all_cons, eg]; rfl⟩
      simp only [evE_var, evE_cst, evE_tup, evE_lst, evE_op, evE_neg, evE_not, evE_and, evE_or, evE_ite, evE_sub, evE_slice, evE_call, evE_callK, evE_bm, evE_bf, evE_isi, evEs_nil, evEs_cons, exS_asg, exS_augN, exS_expr, exS_ret, exS_ife, exB_nil', exB_cons', bind_ok', stm_ok', next_nx', next_rt', bind_exc', stm_exc', next_exc', ifO_t, ifO_f, opt_some, varO_some, laidV_int, laidV_bl, laidV_str, laidV_tup, laidV_lst, retO_rt, retO_nx, v_add, v_sub, v_lt, v_le, v_gt, v_ge, v_eqi, v_nei, t_bl, t_int, ofOpt_some', List.getElem?_cons_zero, List.getElem?_cons_succ, List.set_cons_zero, List.set_cons_succ, List.map_cons, List.map_nil, List.cons_append, List.nil_append, List.replicate_succ, List.replicate_zero, bindTg, setSlots, List.length_cons, List.length_nil, Nat.reduceAdd, Nat.reduceSub, Nat.reduceLT, ↓reduceIte, if_true, bf_int, bf_lent, bf_lenl, bf_lena, sub_t, sub_l, sub_a, cv, Bool.not_false]
theorem is_list (d : Nat) (g : Kd → Val → Bool) (k : Kd) (m : Nat) (v : Val) (p : Pl v) (h : Heap) (hF : ∀ x, Pl x → callF T d (fnOf k) [x] h = .ok (.bl (g k x)) h) :
    callF T (d + 1) 7 [v, .fn (fnOf k), .int (m : Int)] h = .ok (.bl (okP g (.many m k) v)) h := by
  rw [callF_n T d 7 _ h _ B.f7 (B.fz 7 (by omega)) rfl]
  have hv : T.val (fnOf k) = true := B.val _ (by cases k <;> decide)
  cases p with
  | non => simp only [b7, evE_var, evE_cst, evE_tup, evE_lst, evE_op, evE_neg, evE_not, evE_and, evE_or, evE_ite, evE_sub, evE_slice, evE_call, evE_callK, evE_bm, evE_bf, evE_isi, evEs_nil, evEs_cons, exS_asg, exS_augN, exS_expr, exS_ret, exS_ife, exB_nil', exB_cons', bind_ok', stm_ok', next_nx', next_rt', bind_exc', stm_exc', next_exc', ifO_t, ifO_f, opt_some, varO_some, laidV_int, laidV_bl, laidV_str, laidV_tup, laidV_lst, retO_rt, retO_nx, v_add, v_sub, v_lt, v_le, v_gt, v_ge, v_eqi, v_nei, t_bl, t_int, ofOpt_some', List.getElem?_cons_zero, List.getElem?_cons_succ, List.set_cons_zero, List.set_cons_succ, List.map_cons, List.map_nil, List.cons_append, List.nil_append, List.replicate_succ, List.replicate_zero, bindTg, setSlots, List.length_cons, List.length_nil, Nat.reduceAdd, Nat.reduceSub, Nat.reduceLT, ↓reduceIte, if_true, bf_int, bf_lent, bf_lenl, bf_lena, sub_t, sub_l, sub_a, isiV, Option.map_some, Bool.not_false, okP]
  | bl b => simp only [b7, evE_var, evE_cst, evE_tup, evE_lst, evE_op, evE_neg, evE_not, evE_and, evE_or, evE_ite, evE_sub, evE_slice, evE_call, evE_callK, evE_bm, evE_bf, evE_isi, evEs_nil, evEs_cons, exS_asg, exS_augN, exS_expr, exS_ret, exS_ife, exB_nil', exB_cons', bind_ok', stm_ok', next_nx', next_rt', bind_exc', stm_exc', next_exc', ifO_t, ifO_f, opt_some, varO_some, laidV_int, laidV_bl, laidV_str, laidV_tup, laidV_lst, retO_rt, retO_nx, v_add, v_sub, v_lt, v_le, v_gt, v_ge, v_eqi, v_nei, t_bl, t_int, ofOpt_some', List.getElem?_cons_zero, List.getElem?_cons_succ, List.set_cons_zero, List.set_cons_succ, List.map_cons, List.map_nil, List.cons_append, List.nil_append, List.replicate_succ, List.replicate_zero, bindTg, setSlots, List.length_cons, List.length_nil, Nat.reduceAdd, Nat.reduceSub, Nat.reduceLT, ↓reduceIte, if_true, bf_int, bf_lent, bf_lenl, bf_lena, sub_t, sub_l, sub_a, isiV, Option.map_some, Bool.not_false, okP]
  | int i => simp only [b7, evE_var, evE_cst, evE_tup, evE_lst, evE_op, evE_neg, evE_not, evE_and, evE_or, evE_ite, evE_sub, evE_slice, evE_call, evE_callK, evE_bm, evE_bf, evE_isi, evEs_nil, evEs_cons, exS_asg, exS_augN, exS_expr, exS_ret, exS_ife, exB_nil', exB_cons', bind_ok', stm_ok', next_nx', next_rt', bind_exc', stm_exc', next_exc', ifO_t, ifO_f, opt_some, varO_some, laidV_int, laidV_bl, laidV_str, laidV_tup, laidV_lst, retO_rt, retO_nx, v_add, v_sub, v_lt, v_le, v_gt, v_ge, v_eqi, v_nei, t_bl, t_int, ofOpt_some', List.getElem?_cons_zero, List.getElem?_cons_succ, List.set_cons_zero, List.set_cons_succ, List.map_cons, List.map_nil, List.cons_append, List.nil_append, List.replicate_succ, List.replicate_zero, bindTg, setSlots, List.length_cons, List.length_nil, Nat.reduceAdd, Nat.reduceSub, Nat.reduceLT, ↓reduceIte, if_true, bf_int, bf_lent, bf_lenl, bf_lena, sub_t, sub_l, sub_a, isiV, Option.map_some, Bool.not_false, okP]
  | str s => simp only [b7, evE_var, evE_cst, evE_tup, evE_lst, evE_op, evE_neg, evE_not, evE_and, evE_or, evE_ite, evE_sub, evE_slice, evE_call, evE_callK, evE_bm, evE_bf, evE_isi, evEs_nil, evEs_cons, exS_asg, exS_augN, exS_expr, exS_ret, exS_ife, exB_nil', exB_cons', bind_ok', stm_ok', next_nx', next_rt', bind_exc', stm_exc', next_exc', ifO_t, ifO_f, opt_some, varO_some, laidV_int, laidV_bl, laidV_str, laidV_tup, laidV_lst, retO_rt, retO_nx, v_add, v_sub, v_lt, v_le, v_gt, v_ge, v_eqi, v_nei, t_bl, t_int, ofOpt_some', List.getElem?_cons_zero, List.getElem?_cons_succ, List.set_cons_zero, List.set_cons_succ, List.map_cons, List.map_nil, List.cons_append, List.nil_append, List.replicate_succ, List.replicate_zero, bindTg, setSlots, List.length_cons, List.length_nil, Nat.reduceAdd, Nat.reduceSub, Nat.reduceLT, ↓reduceIte, if_true, bf_int, bf_lent, bf_lenl, bf_lena, sub_t, sub_l, sub_a, isiV, Option.map_some, Bool.not_false, okP]
  | tup xs hx =>
    by_cases hl : xs.length ≤ m
    · have d1 : decide ((m : Int) < (xs.length : Int)) = false := decide_eq_false (by omega)
      have d2 : decide (xs.length ≤ m) = true := decide_eq_true hl
      have wk : walkV h 0 [.tup xs] = some xs := rfl
      rcases list_loop B (callF T d) (fnOf k) (g k) hv h h xs (some (.tup xs)) (some (.int (m : Int))) xs none (fun x hm => hF x (hx x hm)) with ⟨e1, q1, q2⟩ | ⟨q1, q2⟩
      · have el := loop_of (T := T) (F := callF T d) (tg := .name 3) (w := 0) (it := [.var 0]) (ρ := [some (.tup xs), some (.fn (fnOf k)), some (.int (m : Int)), none]) (h := h) (by decide) (by simp only [evE_var, evE_cst, evE_tup, evE_lst, evE_op, evE_neg, evE_not, evE_and, evE_or, evE_ite, evE_sub, evE_slice, evE_call, evE_callK, evE_bm, evE_bf, evE_isi, evEs_nil, evEs_cons, exS_asg, exS_augN, exS_expr, exS_ret, exS_ife, exB_nil', exB_cons', bind_ok', stm_ok', next_nx', next_rt', bind_exc', stm_exc', next_exc', ifO_t, ifO_f, opt_some, varO_some, laidV_int, laidV_bl, laidV_str, laidV_tup, laidV_lst, retO_rt, retO_nx, v_add, v_sub, v_lt, v_le, v_gt, v_ge, v_eqi, v_nei, t_bl, t_int, ofOpt_some', List.getElem?_cons_zero, List.getElem?_cons_succ, List.set_cons_zero, List.set_cons_succ, List.map_cons, List.map_nil, List.cons_append, List.nil_append, List.replicate_succ, List.replicate_zero, bindTg, setSlots, List.length_cons, List.length_nil, Nat.reduceAdd, Nat.reduceSub, Nat.reduceLT, ↓reduceIte, if_true, bf_int, bf_lent, bf_lenl, bf_lena, sub_t, sub_l, sub_a]) wk q1
        simp only [b7, evE_var, evE_cst, evE_tup, evE_lst, evE_op, evE_neg, evE_not, evE_and, evE_or, evE_ite, evE_sub, evE_slice, evE_call, evE_callK, evE_bm, evE_bf, evE_isi, evEs_nil, evEs_cons, exS_asg, exS_augN, exS_expr, exS_ret, exS_ife, exB_nil', exB_cons', bind_ok', stm_ok', next_nx', next_rt', bind_exc', stm_exc', next_exc', ifO_t, ifO_f, opt_some, varO_some, laidV_int, laidV_bl, laidV_str, laidV_tup, laidV_lst, retO_rt, retO_nx, v_add, v_sub, v_lt, v_le, v_gt, v_ge, v_eqi, v_nei, t_bl, t_int, ofOpt_some', List.getElem?_cons_zero, List.getElem?_cons_succ, List.set_cons_zero, List.set_cons_succ, List.map_cons, List.map_nil, List.cons_append, List.nil_append, List.replicate_succ, List.replicate_zero, bindTg, setSlots, List.length_cons, List.length_nil, Nat.reduceAdd, Nat.reduceSub, Nat.reduceLT, ↓reduceIte, if_true, bf_int, bf_lent, bf_lenl, bf_lena, sub_t, sub_l, sub_a, isiV, Option.map_some, Bool.not_true, d1, d2, el, okP, q2, Bool.true_and]
      · have el := loop_of (T := T) (F := callF T d) (tg := .name 3) (w := 0) (it := [.var 0]) (ρ := [some (.tup xs), some (.fn (fnOf k)), some (.int (m : Int)), none]) (h := h) (by decide) (by simp only [evE_var, evE_cst, evE_tup, evE_lst, evE_op, evE_neg, evE_not, evE_and, evE_or, evE_ite, evE_sub, evE_slice, evE_call, evE_callK, evE_bm, evE_bf, evE_isi, evEs_nil, evEs_cons, exS_asg, exS_augN, exS_expr, exS_ret, exS_ife, exB_nil', exB_cons', bind_ok', stm_ok', next_nx', next_rt', bind_exc', stm_exc', next_exc', ifO_t, ifO_f, opt_some, varO_some, laidV_int, laidV_bl, laidV_str, laidV_tup, laidV_lst, retO_rt, retO_nx, v_add, v_sub, v_lt, v_le, v_gt, v_ge, v_eqi, v_nei, t_bl, t_int, ofOpt_some', List.getElem?_cons_zero, List.getElem?_cons_succ, List.set_cons_zero, List.set_cons_succ, List.map_cons, List.map_nil, List.cons_append, List.nil_append, List.replicate_succ, List.replicate_zero, bindTg, setSlots, List.length_cons, List.length_nil, Nat.reduceAdd, Nat.reduceSub, Nat.reduceLT, ↓reduceIte, if_true, bf_int, bf_lent, bf_lenl, bf_lena, sub_t, sub_l, sub_a]) wk q1
        simp only [b7, evE_var, evE_cst, evE_tup, evE_lst, evE_op, evE_neg, evE_not, evE_and, evE_or, evE_ite, evE_sub, evE_slice, evE_call, evE_callK, evE_bm, evE_bf, evE_isi, evEs_nil, evEs_cons, exS_asg, exS_augN, exS_expr, exS_ret, exS_ife, exB_nil', exB_cons', bind_ok', stm_ok', next_nx', next_rt', bind_exc', stm_exc', next_exc', ifO_t, ifO_f, opt_some, varO_some, laidV_int, laidV_bl, laidV_str, laidV_tup, laidV_lst, retO_rt, retO_nx, v_add, v_sub, v_lt, v_le, v_gt, v_ge, v_eqi, v_nei, t_bl, t_int, ofOpt_some', List.getElem?_cons_zero, List.getElem?_cons_succ, List.set_cons_zero, List.set_cons_succ, List.map_cons, List.map_nil, List.cons_append, List.nil_append, List.replicate_succ, List.replicate_zero, bindTg, setSlots, List.length_cons, List.length_nil, Nat.reduceAdd, Nat.reduceSub, Nat.reduceLT, ↓reduceIte, if_true, bf_int, bf_lent, bf_lenl, bf_lena, sub_t, sub_l, sub_a, isiV, Option.map_some, Bool.not_true, d1, d2, el, okP, q2, Bool.true_and]
    · have d1 : decide ((m : Int) < (xs.length : Int)) = true := decide_eq_true (by omega)
      have d2 : decide (xs.length ≤ m) = false := decide_eq_false hl
      simp only [b7, evE_var, evE_cst, evE_tup, evE_lst, evE_op, evE_neg, evE_not, evE_and, evE_or, evE_ite, evE_sub, evE_slice, evE_call, evE_callK, evE_bm, evE_bf, evE_isi, evEs_nil, evEs_cons, exS_asg, exS_augN, exS_expr, exS_ret, exS_ife, exB_nil', exB_cons', bind_ok', stm_ok', next_nx', next_rt', bind_exc', stm_exc', next_exc', ifO_t, ifO_f, opt_some, varO_some, laidV_int, laidV_bl, laidV_str, laidV_tup, laidV_lst, retO_rt, retO_nx, v_add, v_sub, v_lt, v_le, v_gt, v_ge, v_eqi, v_nei, t_bl, t_int, ofOpt_some', List.getElem?_cons_zero, List.getElem?_cons_succ, List.set_cons_zero, List.set_cons_succ, List.map_cons, List.map_nil, List.cons_append, List.nil_append, List.replicate_succ, List.replicate_zero, bindTg, setSlots, List.length_cons, List.length_nil, Nat.reduceAdd, Nat.reduceSub, Nat.reduceLT, ↓reduceIte, if_true, bf_int, bf_lent, bf_lenl, bf_lena, sub_t, sub_l, sub_a, isiV, Option.map_some, Bool.not_true, d1, d2, okP, Bool.false_and]
def hasName : Val → Bool
  | .tup (.str _ :: _) => true
  | _ => false
theorem is_named (d : Nat) (v : Val) (p : Pl v) (h : Heap) : callF T (d + 1) 8 [v] h = .ok (.bl (hasName v)) h := by
  rw [callF_n T d 8 _ h _ B.f8 (B.fz 8 (by omega)) rfl]
  cases p with
  | non => simp only [b8, evE_var, evE_cst, evE_tup, evE_lst, evE_op, evE_neg, evE_not, evE_and, evE_or, evE_ite, evE_sub, evE_slice, evE_call, evE_callK, evE_bm, evE_bf, evE_isi, evEs_nil, evEs_cons, exS_asg, exS_augN, exS_expr, exS_ret, exS_ife, exB_nil', exB_cons', bind_ok', stm_ok', next_nx', next_rt', bind_exc', stm_exc', next_exc', ifO_t, ifO_f, opt_some, varO_some, laidV_int, laidV_bl, laidV_str, laidV_tup, laidV_lst, retO_rt, retO_nx, v_add, v_sub, v_lt, v_le, v_gt, v_ge, v_eqi, v_nei, t_bl, t_int, ofOpt_some', List.getElem?_cons_zero, List.getElem?_cons_succ, List.set_cons_zero, List.set_cons_succ, List.map_cons, List.map_nil, List.cons_append, List.nil_append, List.replicate_succ, List.replicate_zero, bindTg, setSlots, List.length_cons, List.length_nil, Nat.reduceAdd, Nat.reduceSub, Nat.reduceLT, ↓reduceIte, if_true, bf_int, bf_lent, bf_lenl, bf_lena, sub_t, sub_l, sub_a, isiV, Option.map_some, hasName]
  | bl b => simp only [b8, evE_var, evE_cst, evE_tup, evE_lst, evE_op, evE_neg, evE_not, evE_and, evE_or, evE_ite, evE_sub, evE_slice, evE_call, evE_callK, evE_bm, evE_bf, evE_isi, evEs_nil, evEs_cons, exS_asg, exS_augN, exS_expr, exS_ret, exS_ife, exB_nil', exB_cons', bind_ok', stm_ok', next_nx', next_rt', bind_exc', stm_exc', next_exc', ifO_t, ifO_f, opt_some, varO_some, laidV_int, laidV_bl, laidV_str, laidV_tup, laidV_lst, retO_rt, retO_nx, v_add, v_sub, v_lt, v_le, v_gt, v_ge, v_eqi, v_nei, t_bl, t_int, ofOpt_some', List.getElem?_cons_zero, List.getElem?_cons_succ, List.set_cons_zero, List.set_cons_succ, List.map_cons, List.map_nil, List.cons_append, List.nil_append, List.replicate_succ, List.replicate_zero, bindTg, setSlots, List.length_cons, List.length_nil, Nat.reduceAdd, Nat.reduceSub, Nat.reduceLT, ↓reduceIte, if_true, bf_int, bf_lent, bf_lenl, bf_lena, sub_t, sub_l, sub_a, isiV, Option.map_some, hasName]
  | int i => simp only [b8, evE_var, evE_cst, evE_tup, evE_lst, evE_op, evE_neg, evE_not, evE_and, evE_or, evE_ite, evE_sub, evE_slice, evE_call, evE_callK, evE_bm, evE_bf, evE_isi, evEs_nil, evEs_cons, exS_asg, exS_augN, exS_expr, exS_ret, exS_ife, exB_nil', exB_cons', bind_ok', stm_ok', next_nx', next_rt', bind_exc', stm_exc', next_exc', ifO_t, ifO_f, opt_some, varO_some, laidV_int, laidV_bl, laidV_str, laidV_tup, laidV_lst, retO_rt, retO_nx, v_add, v_sub, v_lt, v_le, v_gt, v_ge, v_eqi, v_nei, t_bl, t_int, ofOpt_some', List.getElem?_cons_zero, List.getElem?_cons_succ, List.set_cons_zero, List.set_cons_succ, List.map_cons, List.map_nil, List.cons_append, List.nil_append, List.replicate_succ, List.replicate_zero, bindTg, setSlots, List.length_cons, List.length_nil, Nat.reduceAdd, Nat.reduceSub, Nat.reduceLT, ↓reduceIte, if_true, bf_int, bf_lent, bf_lenl, bf_lena, sub_t, sub_l, sub_a, isiV, Option.map_some, hasName]
  | str s => simp only [b8, evE_var, evE_cst, evE_tup, evE_lst, evE_op, evE_neg, evE_not, evE_and, evE_or, evE_ite, evE_sub, evE_slice, evE_call, evE_callK, evE_bm, evE_bf, evE_isi, evEs_nil, evEs_cons, exS_asg, exS_augN, exS_expr, exS_ret, exS_ife, exB_nil', exB_cons', bind_ok', stm_ok', next_nx', next_rt', bind_exc', stm_exc', next_exc', ifO_t, ifO_f, opt_some, varO_some, laidV_int, laidV_bl, laidV_str, laidV_tup, laidV_lst, retO_rt, retO_nx, v_add, v_sub, v_lt, v_le, v_gt, v_ge, v_eqi, v_nei, t_bl, t_int, ofOpt_some', List.getElem?_cons_zero, List.getElem?_cons_succ, List.set_cons_zero, List.set_cons_succ, List.map_cons, List.map_nil, List.cons_append, List.nil_append, List.replicate_succ, List.replicate_zero, bindTg, setSlots, List.length_cons, List.length_nil, Nat.reduceAdd, Nat.reduceSub, Nat.reduceLT, ↓reduceIte, if_true, bf_int, bf_lent, bf_lenl, bf_lena, sub_t, sub_l, sub_a, isiV, Option.map_some, hasName]
  | tup xs hx =>
    cases xs with
    | nil =>
      have d1 : decide ((0 : Int) < ((([] : List Val).length : Nat) : Int)) = false := rfl
      simp only [b8, evE_var, evE_cst, evE_tup, evE_lst, evE_op, evE_neg, evE_not, evE_and, evE_or, evE_ite, evE_sub, evE_slice, evE_call, evE_callK, evE_bm, evE_bf, evE_isi, evEs_nil, evEs_cons, exS_asg, exS_augN, exS_expr, exS_ret, exS_ife, exB_nil', exB_cons', bind_ok', stm_ok', next_nx', next_rt', bind_exc', stm_exc', next_exc', ifO_t, ifO_f, opt_some, varO_some, laidV_int, laidV_bl, laidV_str, laidV_tup, laidV_lst, retO_rt, retO_nx, v_add, v_sub, v_lt, v_le, v_gt, v_ge, v_eqi, v_nei, t_bl, t_int, ofOpt_some', List.getElem?_cons_zero, List.getElem?_cons_succ, List.set_cons_zero, List.set_cons_succ, List.map_cons, List.map_nil, List.cons_append, List.nil_append, List.replicate_succ, List.replicate_zero, bindTg, setSlots, List.length_cons, List.length_nil, Nat.reduceAdd, Nat.reduceSub, Nat.reduceLT, ↓reduceIte, if_true, bf_int, bf_lent, bf_lenl, bf_lena, sub_t, sub_l, sub_a, isiV, Option.map_some, d1, hasName]
      rfl
    | cons x xs =>
      have d1 : decide ((0 : Int) < (((x :: xs).length : Nat) : Int)) = true := decide_eq_true (by simp only [List.length_cons]; omega)
      have l0 : at_ (x :: xs) 0 = some x := at_nat (x :: xs) 0
      simp only [List.length_cons] at d1
      cases hx x (by simp) with
      | non => simp only [b8, evE_var, evE_cst, evE_tup, evE_lst, evE_op, evE_neg, evE_not, evE_and, evE_or, evE_ite, evE_sub, evE_slice, evE_call, evE_callK, evE_bm, evE_bf, evE_isi, evEs_nil, evEs_cons, exS_asg, exS_augN, exS_expr, exS_ret, exS_ife, exB_nil', exB_cons', bind_ok', stm_ok', next_nx', next_rt', bind_exc', stm_exc', next_exc', ifO_t, ifO_f, opt_some, varO_some, laidV_int, laidV_bl, laidV_str, laidV_tup, laidV_lst, retO_rt, retO_nx, v_add, v_sub, v_lt, v_le, v_gt, v_ge, v_eqi, v_nei, t_bl, t_int, ofOpt_some', List.getElem?_cons_zero, List.getElem?_cons_succ, List.set_cons_zero, List.set_cons_succ, List.map_cons, List.map_nil, List.cons_append, List.nil_append, List.replicate_succ, List.replicate_zero, bindTg, setSlots, List.length_cons, List.length_nil, Nat.reduceAdd, Nat.reduceSub, Nat.reduceLT, ↓reduceIte, if_true, bf_int, bf_lent, bf_lenl, bf_lena, sub_t, sub_l, sub_a, isiV, Option.map_some, d1, l0, hasName]
      | bl b => simp only [b8, evE_var, evE_cst, evE_tup, evE_lst, evE_op, evE_neg, evE_not, evE_and, evE_or, evE_ite, evE_sub, evE_slice, evE_call, evE_callK, evE_bm, evE_bf, evE_isi, evEs_nil, evEs_cons, exS_asg, exS_augN, exS_expr, exS_ret, exS_ife, exB_nil', exB_cons', bind_ok', stm_ok', next_nx', next_rt', bind_exc', stm_exc', next_exc', ifO_t, ifO_f, opt_some, varO_some, laidV_int, laidV_bl, laidV_str, laidV_tup, laidV_lst, retO_rt, retO_nx, v_add, v_sub, v_lt, v_le, v_gt, v_ge, v_eqi, v_nei, t_bl, t_int, ofOpt_some', List.getElem?_cons_zero, List.getElem?_cons_succ, List.set_cons_zero, List.set_cons_succ, List.map_cons, List.map_nil, List.cons_append, List.nil_append, List.replicate_succ, List.replicate_zero, bindTg, setSlots, List.length_cons, List.length_nil, Nat.reduceAdd, Nat.reduceSub, Nat.reduceLT, ↓reduceIte, if_true, bf_int, bf_lent, bf_lenl, bf_lena, sub_t, sub_l, sub_a, isiV, Option.map_some, d1, l0, hasName]
      | int i => simp only [b8, evE_var, evE_cst, evE_tup, evE_lst, evE_op, evE_neg, evE_not, evE_and, evE_or, evE_ite, evE_sub, evE_slice, evE_call, evE_callK, evE_bm, evE_bf, evE_isi, evEs_nil, evEs_cons, exS_asg, exS_augN, exS_expr, exS_ret, exS_ife, exB_nil', exB_cons', bind_ok', stm_ok', next_nx', next_rt', bind_exc', stm_exc', next_exc', ifO_t, ifO_f, opt_some, varO_some, laidV_int, laidV_bl, laidV_str, laidV_tup, laidV_lst, retO_rt, retO_nx, v_add, v_sub, v_lt, v_le, v_gt, v_ge, v_eqi, v_nei, t_bl, t_int, ofOpt_some', List.getElem?_cons_zero, List.getElem?_cons_succ, List.set_cons_zero, List.set_cons_succ, List.map_cons, List.map_nil, List.cons_append, List.nil_append, List.replicate_succ, List.replicate_zero, bindTg, setSlots, List.length_cons, List.length_nil, Nat.reduceAdd, Nat.reduceSub, Nat.reduceLT, ↓reduceIte, if_true, bf_int, bf_lent, bf_lenl, bf_lena, sub_t, sub_l, sub_a, isiV, Option.map_some, d1, l0, hasName]
      | str s => simp only [b8, evE_var, evE_cst, evE_tup, evE_lst, evE_op, evE_neg, evE_not, evE_and, evE_or, evE_ite, evE_sub, evE_slice, evE_call, evE_callK, evE_bm, evE_bf, evE_isi, evEs_nil, evEs_cons, exS_asg, exS_augN, exS_expr, exS_ret, exS_ife, exB_nil', exB_cons', bind_ok', stm_ok', next_nx', next_rt', bind_exc', stm_exc', next_exc', ifO_t, ifO_f, opt_some, varO_some, laidV_int, laidV_bl, laidV_str, laidV_tup, laidV_lst, retO_rt, retO_nx, v_add, v_sub, v_lt, v_le, v_gt, v_ge, v_eqi, v_nei, t_bl, t_int, ofOpt_some', List.getElem?_cons_zero, List.getElem?_cons_succ, List.set_cons_zero, List.set_cons_succ, List.map_cons, List.map_nil, List.cons_append, List.nil_append, List.replicate_succ, List.replicate_zero, bindTg, setSlots, List.length_cons, List.length_nil, Nat.reduceAdd, Nat.reduceSub, Nat.reduceLT, ↓reduceIte, if_true, bf_int, bf_lent, bf_lenl, bf_lena, sub_t, sub_l, sub_a, isiV, Option.map_some, d1, l0, hasName]
      | tup ys _ => simp only [b8, evE_var, evE_cst, evE_tup, evE_lst, evE_op, evE_neg, evE_not, evE_and, evE_or, evE_ite, evE_sub, evE_slice, evE_call, evE_callK, evE_bm, evE_bf, evE_isi, evEs_nil, evEs_cons, exS_asg, exS_augN, exS_expr, exS_ret, exS_ife, exB_nil', exB_cons', bind_ok', stm_ok', next_nx', next_rt', bind_exc', stm_exc', next_exc', ifO_t, ifO_f, opt_some, varO_some, laidV_int, laidV_bl, laidV_str, laidV_tup, laidV_lst, retO_rt, retO_nx, v_add, v_sub, v_lt, v_le, v_gt, v_ge, v_eqi, v_nei, t_bl, t_int, ofOpt_some', List.getElem?_cons_zero, List.getElem?_cons_succ, List.set_cons_zero, List.set_cons_succ, List.map_cons, List.map_nil, List.cons_append, List.nil_append, List.replicate_succ, List.replicate_zero, bindTg, setSlots, List.length_cons, List.length_nil, Nat.reduceAdd, Nat.reduceSub, Nat.reduceLT, ↓reduceIte, if_true, bf_int, bf_lent, bf_lenl, bf_lena, sub_t, sub_l, sub_a, isiV, Option.map_some, d1, l0, hasName]
def numR (rows : List (List Nat × List Kd)) : List (List Nat × List Nat) := rows.map fun p => (p.1, p.2.map fnOf)
omit B in
theorem numR_look (rows : List (List Nat × List Kd)) (s : List Nat) : (numR rows).lookup s = (rows.lookup s).map fun ks => ks.map fnOf := by
  induction rows with
  | nil => rfl
  | cons p rows ih =>
    obtain ⟨z, ks⟩ := p
    show ((z, ks.map fnOf) :: numR rows).lookup s = _
    rw [List.lookup_cons, List.lookup_cons]
    cases s == z with
    | true => rfl
    | false => exact ih
omit B in
theorem look_mem {s : List Nat} {ks : List Kd} : ∀ rows : List (List Nat × List Kd), rows.lookup s = some ks → ∃ z, (z, ks) ∈ rows
  | [], e => by cases e
  | (z, k2) :: rows, e => by
    rw [List.lookup_cons] at e
    split at e
    · cases e; exact ⟨z, by simp⟩
    · obtain ⟨z2, hz⟩ := look_mem rows e; exact ⟨z2, List.mem_cons_of_mem _ hz⟩
omit B in
theorem cut1 (x : Val) (xs : List Val) : cut (x :: xs) (some 1) none = xs := by
  have q1 : clip (x :: xs).length 0 (some 1) = 1 := by simp [clip]
  have q2 : clip (x :: xs).length (x :: xs).length none = (x :: xs).length := rfl
  unfold cut
  rw [q1, q2]
  simp
def rowsOf (K : Kd) : List (List Nat × List Kd) := match parts K with
  | .named r => r
  | _ => []
def nb (rows : List (List Nat × List Kd)) : List S := [.ret (.and (.call 8 [(.var 0)]) (.and (.gin (numR rows) (.sub (.var 0) (.cst (.int 0)))) (.call 6 [(.slice false (.var 0) [(.cst (.int 1))] []), (.gget (numR rows) (.sub (.var 0) (.cst (.int 0))))])))]
omit B in
theorem b14e : b14 = nb (rowsOf .act) := rfl
omit B in
theorem b17e : b17 = nb (rowsOf .move) := rfl
omit B in
theorem b19e : b19 = nb (rowsOf .word) := rfl
omit B in
theorem b20e : b20 = nb (rowsOf .wish) := rfl
omit B in
theorem b21e : b21 = nb (rowsOf .deed) := rfl
theorem named_e (d : Nat) (g : Kd → Val → Bool) (rows : List (List Nat × List Kd)) (v : Val) (p : Pl v) (h : Heap) (hF : ∀ r ∈ rows, ∀ k ∈ r.2, ∀ x, Pl x → callF T d (fnOf k) [x] h = .ok (.bl (g k x)) h) :
    retO (exB T (callF T (d + 1)) (nb rows) [some v] h) = .ok (.bl (okP g (.named rows) v)) h := by
  unfold nb
  have en := is_named B d v p h
  have key : hasName v = true → ∃ s xs, v = .tup (.str s :: xs) := fun e => by
    unfold hasName at e
    split at e
    · exact ⟨_, _, rfl⟩
    · cases e
  cases eh : hasName v with
  | false =>
    rw [eh] at en
    have : okP g (.named rows) v = false := by
      unfold okP
      dsimp only
      split
      · cases eh
      · rfl
    simp only [evE_var, evE_cst, evE_tup, evE_lst, evE_op, evE_neg, evE_not, evE_and, evE_or, evE_ite, evE_sub, evE_slice, evE_call, evE_callK, evE_bm, evE_bf, evE_isi, evEs_nil, evEs_cons, exS_asg, exS_augN, exS_expr, exS_ret, exS_ife, exB_nil', exB_cons', bind_ok', stm_ok', next_nx', next_rt', bind_exc', stm_exc', next_exc', ifO_t, ifO_f, opt_some, varO_some, laidV_int, laidV_bl, laidV_str, laidV_tup, laidV_lst, retO_rt, retO_nx, v_add, v_sub, v_lt, v_le, v_gt, v_ge, v_eqi, v_nei, t_bl, t_int, ofOpt_some', List.getElem?_cons_zero, List.getElem?_cons_succ, List.set_cons_zero, List.set_cons_succ, List.map_cons, List.map_nil, List.cons_append, List.nil_append, List.replicate_succ, List.replicate_zero, bindTg, setSlots, List.length_cons, List.length_nil, Nat.reduceAdd, Nat.reduceSub, Nat.reduceLT, ↓reduceIte, if_true, bf_int, bf_lent, bf_lenl, bf_lena, sub_t, sub_l, sub_a, en, this]
  | true =>
    rw [eh] at en
    obtain ⟨s, xs, rfl⟩ := key eh
    have px : Pl (.tup xs) := by
      cases p with
      | tup _ hx => exact .tup _ fun x hm => hx x (List.mem_cons_of_mem _ hm)
    have l0 : at_ (.str s :: xs) 0 = some (.str s) := at_nat (.str s :: xs) 0
    have es : evE T (callF T (d + 1)) (.sub (.var 0) (.cst (.int 0))) [some (.tup (.str s :: xs))] h = .ok (.str s) h := by simp only [evE_var, evE_cst, evE_tup, evE_lst, evE_op, evE_neg, evE_not, evE_and, evE_or, evE_ite, evE_sub, evE_slice, evE_call, evE_callK, evE_bm, evE_bf, evE_isi, evEs_nil, evEs_cons, exS_asg, exS_augN, exS_expr, exS_ret, exS_ife, exB_nil', exB_cons', bind_ok', stm_ok', next_nx', next_rt', bind_exc', stm_exc', next_exc', ifO_t, ifO_f, opt_some, varO_some, laidV_int, laidV_bl, laidV_str, laidV_tup, laidV_lst, retO_rt, retO_nx, v_add, v_sub, v_lt, v_le, v_gt, v_ge, v_eqi, v_nei, t_bl, t_int, ofOpt_some', List.getElem?_cons_zero, List.getElem?_cons_succ, List.set_cons_zero, List.set_cons_succ, List.map_cons, List.map_nil, List.cons_append, List.nil_append, List.replicate_succ, List.replicate_zero, bindTg, setSlots, List.length_cons, List.length_nil, Nat.reduceAdd, Nat.reduceSub, Nat.reduceLT, ↓reduceIte, if_true, bf_int, bf_lent, bf_lenl, bf_lena, sub_t, sub_l, sub_a, l0]
    have e1 := evE_gin (T := T) (callF T (d + 1)) (numR rows) _ _ h h s es
    have nl := numR_look rows s
    cases el : rows.lookup s with
    | none =>
      rw [el] at nl
      rw [nl] at e1
      have : okP g (.named rows) (.tup (.str s :: xs)) = false := by
        unfold okP
        dsimp only
        rw [el]
      simp only [evE_var, evE_and, evE_call, evEs_nil, evEs_cons, exS_ret, exB_nil', exB_cons', bind_ok', stm_ok', next_rt', ifO_t, ifO_f, varO_some, retO_rt, t_bl, List.getElem?_cons_zero, en, e1, Option.map_none, Option.isSome_none, this]
    | some ks =>
      rw [el] at nl
      have nl : (numR rows).lookup s = some (ks.map fnOf) := nl
      rw [nl] at e1
      have e2 := evE_gget (T := T) (callF T (d + 1)) (numR rows) _ _ h h s _ es nl
      have hm := look_mem rows el
      obtain ⟨z, hm⟩ := hm
      have er := is_row B d g ks (.tup xs) px h (fun k hk x hx => hF _ hm k hk x hx)
      have ef : (ks.map fnOf).map Val.fn = ks.map fun k => .fn (fnOf k) := by rw [List.map_map]; rfl
      rw [ef] at e2
      have sl : evE T (callF T (d + 1)) (.slice false (.var 0) [(.cst (.int 1))] []) [some (.tup (.str s :: xs))] h = .ok (.tup xs) h := by
        have i1 : intsV [Val.int 1] = some [1] := rfl
        have i0 : intsV [] = some [] := rfl
        have sv : sliceV h (.tup (.str s :: xs)) ([1] : List Int).head? ([] : List Int).head? = some (.tup xs) := by
          show some (Val.tup (cut (.str s :: xs) (some 1) none)) = _
          rw [cut1]
        simp only [evE_var, evE_cst, evE_tup, evE_lst, evE_op, evE_neg, evE_not, evE_and, evE_or, evE_ite, evE_sub, evE_slice, evE_call, evE_callK, evE_bm, evE_bf, evE_isi, evEs_nil, evEs_cons, exS_asg, exS_augN, exS_expr, exS_ret, exS_ife, exB_nil', exB_cons', bind_ok', stm_ok', next_nx', next_rt', bind_exc', stm_exc', next_exc', ifO_t, ifO_f, opt_some, varO_some, laidV_int, laidV_bl, laidV_str, laidV_tup, laidV_lst, retO_rt, retO_nx, v_add, v_sub, v_lt, v_le, v_gt, v_ge, v_eqi, v_nei, t_bl, t_int, ofOpt_some', List.getElem?_cons_zero, List.getElem?_cons_succ, List.set_cons_zero, List.set_cons_succ, List.map_cons, List.map_nil, List.cons_append, List.nil_append, List.replicate_succ, List.replicate_zero, bindTg, setSlots, List.length_cons, List.length_nil, Nat.reduceAdd, Nat.reduceSub, Nat.reduceLT, ↓reduceIte, if_true, bf_int, bf_lent, bf_lenl, bf_lena, sub_t, sub_l, sub_a, i1, i0, sv]
      have : okP g (.named rows) (.tup (.str s :: xs)) = okP g (.row ks) (.tup xs) := by
        unfold okP
        dsimp only
        rw [el]
      rw [this]
      simp only [evE_var, evE_and, evE_call, evEs_nil, evEs_cons, exS_ret, exB_nil', exB_cons', bind_ok', stm_ok', next_rt', ifO_t, varO_some, retO_rt, t_bl, List.getElem?_cons_zero, en, e1, e2, sl, er, Option.isSome_some]
/-- each function tells of each value -/
theorem is_all : ∀ (z : Nat) (K : Kd), rank K < z → ∀ d, 3 * z ≤ d → ∀ v, Pl v → ∀ h, callF T d (fnOf K) [v] h = .ok (.bl (ok z K v)) h := by
  intro z
  induction z with
  | zero => intro K hK; omega
  | succ z ih =>
    intro K hK d hd v p h
    obtain ⟨m, rfl⟩ : ∃ m, d = m + 2 := ⟨d - 2, by omega⟩
    have low : ∀ k, rank k < rank K → ∀ x, Pl x → ∀ h, callF T m (fnOf k) [x] h = .ok (.bl (ok z k x)) h := fun k hk x hx h => ih k (by omega) m (by omega) x hx h
    have rows : ∀ ks : List Kd, (ks.all fun k => decide (rank k < rank K)) = true → callF T (m + 1) 6 [v, .tup (ks.map fun k => .fn (fnOf k))] h = .ok (.bl (okP (ok z) (.row ks) v)) h := fun ks hs => is_row B m (ok z) ks v p h fun k hk x hx => low k (by simpa using List.all_eq_true.mp hs k hk) x hx h
    have lists : ∀ (k : Kd) (n : Nat), rank k < rank K → callF T (m + 1) 7 [v, .fn (fnOf k), .int (n : Int)] h = .ok (.bl (okP (ok z) (.many n k) v)) h := fun k n hk => is_list B m (ok z) k n v p h fun x hx => low k hk x hx h
    have nameds := fun (rs : List (List Nat × List Kd)) (hs : (rs.all fun p => p.2.all fun k => decide (rank k < rank K)) = true) => named_e B m (ok z) rs v p h fun r hr k hk x hx => low k (by simpa using List.all_eq_true.mp (List.all_eq_true.mp hs r hr) k hk) x hx h
    have ln : (0 ≤ line) ∧ 4 ≤ line ∧ 5 ≤ line ∧ 6 ≤ line ∧ 7 ≤ line ∧ 8 ≤ line := by decide
    have c4 : (4 ≤ line) = True := eq_true ln.2.1
    have c5 : (5 ≤ line) = True := eq_true ln.2.2.1
    have c6 : (6 ≤ line) = True := eq_true ln.2.2.2.1
    have c7 : (7 ≤ line) = True := eq_true ln.2.2.2.2.1
    have c8 : (8 ≤ line) = True := eq_true ln.2.2.2.2.2
    show callF T (m + 2) (fnOf K) [v] h = .ok (.bl (okP (ok z) (parts K) v)) h
    cases K with
    | n =>
      show callF T (m + 1 + 1) 1 [v] h = _
      rw [callF_n T (m + 1) 1 _ h _ B.f1 (B.fz 1 (by omega)) rfl]
      simp only [b1, evE_var, evE_cst, evE_tup, evE_lst, evE_op, evE_neg, evE_not, evE_and, evE_or, evE_ite, evE_sub, evE_slice, evE_call, evE_callK, evE_bm, evE_bf, evE_isi, evEs_nil, evEs_cons, exS_asg, exS_augN, exS_expr, exS_ret, exS_ife, exB_nil', exB_cons', bind_ok', stm_ok', next_nx', next_rt', bind_exc', stm_exc', next_exc', ifO_t, ifO_f, opt_some, varO_some, laidV_int, laidV_bl, laidV_str, laidV_tup, laidV_lst, retO_rt, retO_nx, v_add, v_sub, v_lt, v_le, v_gt, v_ge, v_eqi, v_nei, t_bl, t_int, ofOpt_some', List.getElem?_cons_zero, List.getElem?_cons_succ, List.set_cons_zero, List.set_cons_succ, List.map_cons, List.map_nil, List.cons_append, List.nil_append, List.replicate_succ, List.replicate_zero, bindTg, setSlots, List.length_cons, List.length_nil, Nat.reduceAdd, Nat.reduceSub, Nat.reduceLT, ↓reduceIte, if_true, bf_int, bf_lent, bf_lenl, bf_lena, sub_t, sub_l, sub_a, whole B m v p (ok z)]
      rfl
    | a =>
      show callF T (m + 1 + 1) 2 [v] h = _
      rw [callF_n T (m + 1) 2 _ h _ B.f2 (B.fz 2 (by omega)) rfl]
      simp only [b2, evE_var, evE_cst, evE_tup, evE_lst, evE_op, evE_neg, evE_not, evE_and, evE_or, evE_ite, evE_sub, evE_slice, evE_call, evE_callK, evE_bm, evE_bf, evE_isi, evEs_nil, evEs_cons, exS_asg, exS_augN, exS_expr, exS_ret, exS_ife, exB_nil', exB_cons', bind_ok', stm_ok', next_nx', next_rt', bind_exc', stm_exc', next_exc', ifO_t, ifO_f, opt_some, varO_some, laidV_int, laidV_bl, laidV_str, laidV_tup, laidV_lst, retO_rt, retO_nx, v_add, v_sub, v_lt, v_le, v_gt, v_ge, v_eqi, v_nei, t_bl, t_int, ofOpt_some', List.getElem?_cons_zero, List.getElem?_cons_succ, List.set_cons_zero, List.set_cons_succ, List.map_cons, List.map_nil, List.cons_append, List.nil_append, List.replicate_succ, List.replicate_zero, bindTg, setSlots, List.length_cons, List.length_nil, Nat.reduceAdd, Nat.reduceSub, Nat.reduceLT, ↓reduceIte, if_true, bf_int, bf_lent, bf_lenl, bf_lena, sub_t, sub_l, sub_a, whole B m v p (ok z)]
      rfl
    | h =>
      show callF T (m + 1 + 1) 3 [v] h = _
      rw [callF_n T (m + 1) 3 _ h _ B.f3 (B.fz 3 (by omega)) rfl]
      simp only [b3, evE_var, evE_cst, evE_tup, evE_lst, evE_op, evE_neg, evE_not, evE_and, evE_or, evE_ite, evE_sub, evE_slice, evE_call, evE_callK, evE_bm, evE_bf, evE_isi, evEs_nil, evEs_cons, exS_asg, exS_augN, exS_expr, exS_ret, exS_ife, exB_nil', exB_cons', bind_ok', stm_ok', next_nx', next_rt', bind_exc', stm_exc', next_exc', ifO_t, ifO_f, opt_some, varO_some, laidV_int, laidV_bl, laidV_str, laidV_tup, laidV_lst, retO_rt, retO_nx, v_add, v_sub, v_lt, v_le, v_gt, v_ge, v_eqi, v_nei, t_bl, t_int, ofOpt_some', List.getElem?_cons_zero, List.getElem?_cons_succ, List.set_cons_zero, List.set_cons_succ, List.map_cons, List.map_nil, List.cons_append, List.nil_append, List.replicate_succ, List.replicate_zero, bindTg, setSlots, List.length_cons, List.length_nil, Nat.reduceAdd, Nat.reduceSub, Nat.reduceLT, ↓reduceIte, if_true, bf_int, bf_lent, bf_lenl, bf_lena, sub_t, sub_l, sub_a, whole B m v p (ok z)]
      rfl
    | f =>
      show callF T (m + 1 + 1) 4 [v] h = _
      rw [callF_n T (m + 1) 4 _ h _ B.f4 (B.fz 4 (by omega)) rfl]
      simp only [b4, evE_var, evE_cst, evE_tup, evE_lst, evE_op, evE_neg, evE_not, evE_and, evE_or, evE_ite, evE_sub, evE_slice, evE_call, evE_callK, evE_bm, evE_bf, evE_isi, evEs_nil, evEs_cons, exS_asg, exS_augN, exS_expr, exS_ret, exS_ife, exB_nil', exB_cons', bind_ok', stm_ok', next_nx', next_rt', bind_exc', stm_exc', next_exc', ifO_t, ifO_f, opt_some, varO_some, laidV_int, laidV_bl, laidV_str, laidV_tup, laidV_lst, retO_rt, retO_nx, v_add, v_sub, v_lt, v_le, v_gt, v_ge, v_eqi, v_nei, t_bl, t_int, ofOpt_some', List.getElem?_cons_zero, List.getElem?_cons_succ, List.set_cons_zero, List.set_cons_succ, List.map_cons, List.map_nil, List.cons_append, List.nil_append, List.replicate_succ, List.replicate_zero, bindTg, setSlots, List.length_cons, List.length_nil, Nat.reduceAdd, Nat.reduceSub, Nat.reduceLT, ↓reduceIte, if_true, bf_int, bf_lent, bf_lenl, bf_lena, sub_t, sub_l, sub_a, whole B m v p (ok z)]
      rfl
    | b =>
      show callF T (m + 1 + 1) 5 [v] h = _
      rw [callF_n T (m + 1) 5 _ h _ B.f5 (B.fz 5 (by omega)) rfl]
      cases p <;> (simp only [b5, evE_var, evE_cst, evE_tup, evE_lst, evE_op, evE_neg, evE_not, evE_and, evE_or, evE_ite, evE_sub, evE_slice, evE_call, evE_callK, evE_bm, evE_bf, evE_isi, evEs_nil, evEs_cons, exS_asg, exS_augN, exS_expr, exS_ret, exS_ife, exB_nil', exB_cons', bind_ok', stm_ok', next_nx', next_rt', bind_exc', stm_exc', next_exc', ifO_t, ifO_f, opt_some, varO_some, laidV_int, laidV_bl, laidV_str, laidV_tup, laidV_lst, retO_rt, retO_nx, v_add, v_sub, v_lt, v_le, v_gt, v_ge, v_eqi, v_nei, t_bl, t_int, ofOpt_some', List.getElem?_cons_zero, List.getElem?_cons_succ, List.set_cons_zero, List.set_cons_succ, List.map_cons, List.map_nil, List.cons_append, List.nil_append, List.replicate_succ, List.replicate_zero, bindTg, setSlots, List.length_cons, List.length_nil, Nat.reduceAdd, Nat.reduceSub, Nat.reduceLT, ↓reduceIte, if_true, bf_int, bf_lent, bf_lenl, bf_lena, sub_t, sub_l, sub_a, isiV, Option.map_some]; rfl)
    | hands =>
      have e := lists .n 4 (by decide)
      have e : callF T (m + 1) 7 [v, .fn 1, .int 4] h = _ := e
      show callF T (m + 1 + 1) 15 [v] h = _
      rw [callF_n T (m + 1) 15 _ h _ B.f15 (B.fz 15 (by omega)) rfl]
      simp only [b15, evE_var, evE_cst, evE_tup, evE_lst, evE_op, evE_neg, evE_not, evE_and, evE_or, evE_ite, evE_sub, evE_slice, evE_call, evE_callK, evE_bm, evE_bf, evE_isi, evEs_nil, evEs_cons, exS_asg, exS_augN, exS_expr, exS_ret, exS_ife, exB_nil', exB_cons', bind_ok', stm_ok', next_nx', next_rt', bind_exc', stm_exc', next_exc', ifO_t, ifO_f, opt_some, varO_some, laidV_int, laidV_bl, laidV_str, laidV_tup, laidV_lst, retO_rt, retO_nx, v_add, v_sub, v_lt, v_le, v_gt, v_ge, v_eqi, v_nei, t_bl, t_int, ofOpt_some', List.getElem?_cons_zero, List.getElem?_cons_succ, List.set_cons_zero, List.set_cons_succ, List.map_cons, List.map_nil, List.cons_append, List.nil_append, List.replicate_succ, List.replicate_zero, bindTg, setSlots, List.length_cons, List.length_nil, Nat.reduceAdd, Nat.reduceSub, Nat.reduceLT, ↓reduceIte, if_true, bf_int, bf_lent, bf_lenl, bf_lena, sub_t, sub_l, sub_a, e]
      rfl
    | locks =>
      have e := lists .lock 30 (by decide)
      have e : callF T (m + 1) 7 [v, .fn 9, .int 30] h = _ := e
      show callF T (m + 1 + 1) 10 [v] h = _
      rw [callF_n T (m + 1) 10 _ h _ B.f10 (B.fz 10 (by omega)) rfl]
      simp only [b10, evE_var, evE_cst, evE_tup, evE_lst, evE_op, evE_neg, evE_not, evE_and, evE_or, evE_ite, evE_sub, evE_slice, evE_call, evE_callK, evE_bm, evE_bf, evE_isi, evEs_nil, evEs_cons, exS_asg, exS_augN, exS_expr, exS_ret, exS_ife, exB_nil', exB_cons', bind_ok', stm_ok', next_nx', next_rt', bind_exc', stm_exc', next_exc', ifO_t, ifO_f, opt_some, varO_some, laidV_int, laidV_bl, laidV_str, laidV_tup, laidV_lst, retO_rt, retO_nx, v_add, v_sub, v_lt, v_le, v_gt, v_ge, v_eqi, v_nei, t_bl, t_int, ofOpt_some', List.getElem?_cons_zero, List.getElem?_cons_succ, List.set_cons_zero, List.set_cons_succ, List.map_cons, List.map_nil, List.cons_append, List.nil_append, List.replicate_succ, List.replicate_zero, bindTg, setSlots, List.length_cons, List.length_nil, Nat.reduceAdd, Nat.reduceSub, Nat.reduceLT, ↓reduceIte, if_true, bf_int, bf_lent, bf_lenl, bf_lena, sub_t, sub_l, sub_a, e]
      rfl
    | step =>
      have e := lists .move 16 (by decide)
      have e : callF T (m + 1) 7 [v, .fn 17, .int 16] h = _ := e
      show callF T (m + 1 + 1) 18 [v] h = _
      rw [callF_n T (m + 1) 18 _ h _ B.f18 (B.fz 18 (by omega)) rfl]
      simp only [b18, evE_var, evE_cst, evE_tup, evE_lst, evE_op, evE_neg, evE_not, evE_and, evE_or, evE_ite, evE_sub, evE_slice, evE_call, evE_callK, evE_bm, evE_bf, evE_isi, evEs_nil, evEs_cons, exS_asg, exS_augN, exS_expr, exS_ret, exS_ife, exB_nil', exB_cons', bind_ok', stm_ok', next_nx', next_rt', bind_exc', stm_exc', next_exc', ifO_t, ifO_f, opt_some, varO_some, laidV_int, laidV_bl, laidV_str, laidV_tup, laidV_lst, retO_rt, retO_nx, v_add, v_sub, v_lt, v_le, v_gt, v_ge, v_eqi, v_nei, t_bl, t_int, ofOpt_some', List.getElem?_cons_zero, List.getElem?_cons_succ, List.set_cons_zero, List.set_cons_succ, List.map_cons, List.map_nil, List.cons_append, List.nil_append, List.replicate_succ, List.replicate_zero, bindTg, setSlots, List.length_cons, List.length_nil, Nat.reduceAdd, Nat.reduceSub, Nat.reduceLT, ↓reduceIte, if_true, bf_int, bf_lent, bf_lenl, bf_lena, sub_t, sub_l, sub_a, e]
      rfl
    | lock =>
      have e := rows [.n, .a, .h, .b] (by decide)
      have e : callF T (m + 1) 6 [v, .tup [.fn 1, .fn 2, .fn 3, .fn 5]] h = _ := e
      show callF T (m + 1 + 1) 9 [v] h = _
      rw [callF_n T (m + 1) 9 _ h _ B.f9 (B.fz 9 (by omega)) rfl]
      simp only [b9, evE_var, evE_cst, evE_tup, evE_lst, evE_op, evE_neg, evE_not, evE_and, evE_or, evE_ite, evE_sub, evE_slice, evE_call, evE_callK, evE_bm, evE_bf, evE_isi, evEs_nil, evEs_cons, exS_asg, exS_augN, exS_expr, exS_ret, exS_ife, exB_nil', exB_cons', bind_ok', stm_ok', next_nx', next_rt', bind_exc', stm_exc', next_exc', ifO_t, ifO_f, opt_some, varO_some, laidV_int, laidV_bl, laidV_str, laidV_tup, laidV_lst, retO_rt, retO_nx, v_add, v_sub, v_lt, v_le, v_gt, v_ge, v_eqi, v_nei, t_bl, t_int, ofOpt_some', List.getElem?_cons_zero, List.getElem?_cons_succ, List.set_cons_zero, List.set_cons_succ, List.map_cons, List.map_nil, List.cons_append, List.nil_append, List.replicate_succ, List.replicate_zero, bindTg, setSlots, List.length_cons, List.length_nil, Nat.reduceAdd, Nat.reduceSub, Nat.reduceLT, ↓reduceIte, if_true, bf_int, bf_lent, bf_lenl, bf_lena, sub_t, sub_l, sub_a, c4, e]
      rfl
    | state =>
      have e := rows [.n, .n, .f, .f, .locks, .b] (by decide)
      have e : callF T (m + 1) 6 [v, .tup [.fn 1, .fn 1, .fn 4, .fn 4, .fn 10, .fn 5]] h = _ := e
      show callF T (m + 1 + 1) 11 [v] h = _
      rw [callF_n T (m + 1) 11 _ h _ B.f11 (B.fz 11 (by omega)) rfl]
      simp only [b11, evE_var, evE_cst, evE_tup, evE_lst, evE_op, evE_neg, evE_not, evE_and, evE_or, evE_ite, evE_sub, evE_slice, evE_call, evE_callK, evE_bm, evE_bf, evE_isi, evEs_nil, evEs_cons, exS_asg, exS_augN, exS_expr, exS_ret, exS_ife, exB_nil', exB_cons', bind_ok', stm_ok', next_nx', next_rt', bind_exc', stm_exc', next_exc', ifO_t, ifO_f, opt_some, varO_some, laidV_int, laidV_bl, laidV_str, laidV_tup, laidV_lst, retO_rt, retO_nx, v_add, v_sub, v_lt, v_le, v_gt, v_ge, v_eqi, v_nei, t_bl, t_int, ofOpt_some', List.getElem?_cons_zero, List.getElem?_cons_succ, List.set_cons_zero, List.set_cons_succ, List.map_cons, List.map_nil, List.cons_append, List.nil_append, List.replicate_succ, List.replicate_zero, bindTg, setSlots, List.length_cons, List.length_nil, Nat.reduceAdd, Nat.reduceSub, Nat.reduceLT, ↓reduceIte, if_true, bf_int, bf_lent, bf_lenl, bf_lena, sub_t, sub_l, sub_a, c6, e]
      rfl
    | opening =>
      have e := rows [.n, .n, .n, .a, .a, .h, .h] (by decide)
      have e : callF T (m + 1) 6 [v, .tup [.fn 1, .fn 1, .fn 1, .fn 2, .fn 2, .fn 3, .fn 3]] h = _ := e
      show callF T (m + 1 + 1) 12 [v] h = _
      rw [callF_n T (m + 1) 12 _ h _ B.f12 (B.fz 12 (by omega)) rfl]
      simp only [b12, evE_var, evE_cst, evE_tup, evE_lst, evE_op, evE_neg, evE_not, evE_and, evE_or, evE_ite, evE_sub, evE_slice, evE_call, evE_callK, evE_bm, evE_bf, evE_isi, evEs_nil, evEs_cons, exS_asg, exS_augN, exS_expr, exS_ret, exS_ife, exB_nil', exB_cons', bind_ok', stm_ok', next_nx', next_rt', bind_exc', stm_exc', next_exc', ifO_t, ifO_f, opt_some, varO_some, laidV_int, laidV_bl, laidV_str, laidV_tup, laidV_lst, retO_rt, retO_nx, v_add, v_sub, v_lt, v_le, v_gt, v_ge, v_eqi, v_nei, t_bl, t_int, ofOpt_some', List.getElem?_cons_zero, List.getElem?_cons_succ, List.set_cons_zero, List.set_cons_succ, List.map_cons, List.map_nil, List.cons_append, List.nil_append, List.replicate_succ, List.replicate_zero, bindTg, setSlots, List.length_cons, List.length_nil, Nat.reduceAdd, Nat.reduceSub, Nat.reduceLT, ↓reduceIte, if_true, bf_int, bf_lent, bf_lenl, bf_lena, sub_t, sub_l, sub_a, c7, e]
      rfl
    | splice =>
      have e := rows [.n, .n, .n, .h, .a, .a, .a, .a] (by decide)
      have e : callF T (m + 1) 6 [v, .tup [.fn 1, .fn 1, .fn 1, .fn 3, .fn 2, .fn 2, .fn 2, .fn 2]] h = _ := e
      show callF T (m + 1 + 1) 13 [v] h = _
      rw [callF_n T (m + 1) 13 _ h _ B.f13 (B.fz 13 (by omega)) rfl]
      simp only [b13, evE_var, evE_cst, evE_tup, evE_lst, evE_op, evE_neg, evE_not, evE_and, evE_or, evE_ite, evE_sub, evE_slice, evE_call, evE_callK, evE_bm, evE_bf, evE_isi, evEs_nil, evEs_cons, exS_asg, exS_augN, exS_expr, exS_ret, exS_ife, exB_nil', exB_cons', bind_ok', stm_ok', next_nx', next_rt', bind_exc', stm_exc', next_exc', ifO_t, ifO_f, opt_some, varO_some, laidV_int, laidV_bl, laidV_str, laidV_tup, laidV_lst, retO_rt, retO_nx, v_add, v_sub, v_lt, v_le, v_gt, v_ge, v_eqi, v_nei, t_bl, t_int, ofOpt_some', List.getElem?_cons_zero, List.getElem?_cons_succ, List.set_cons_zero, List.set_cons_succ, List.map_cons, List.map_nil, List.cons_append, List.nil_append, List.replicate_succ, List.replicate_zero, bindTg, setSlots, List.length_cons, List.length_nil, Nat.reduceAdd, Nat.reduceSub, Nat.reduceLT, ↓reduceIte, if_true, bf_int, bf_lent, bf_lenl, bf_lena, sub_t, sub_l, sub_a, c8, e]
      rfl
    | thing =>
      have e := rows [.act, .hands, .n, .a, .n] (by decide)
      have e : callF T (m + 1) 6 [v, .tup [.fn 14, .fn 15, .fn 1, .fn 2, .fn 1]] h = _ := e
      show callF T (m + 1 + 1) 16 [v] h = _
      rw [callF_n T (m + 1) 16 _ h _ B.f16 (B.fz 16 (by omega)) rfl]
      simp only [b16, evE_var, evE_cst, evE_tup, evE_lst, evE_op, evE_neg, evE_not, evE_and, evE_or, evE_ite, evE_sub, evE_slice, evE_call, evE_callK, evE_bm, evE_bf, evE_isi, evEs_nil, evEs_cons, exS_asg, exS_augN, exS_expr, exS_ret, exS_ife, exB_nil', exB_cons', bind_ok', stm_ok', next_nx', next_rt', bind_exc', stm_exc', next_exc', ifO_t, ifO_f, opt_some, varO_some, laidV_int, laidV_bl, laidV_str, laidV_tup, laidV_lst, retO_rt, retO_nx, v_add, v_sub, v_lt, v_le, v_gt, v_ge, v_eqi, v_nei, t_bl, t_int, ofOpt_some', List.getElem?_cons_zero, List.getElem?_cons_succ, List.set_cons_zero, List.set_cons_succ, List.map_cons, List.map_nil, List.cons_append, List.nil_append, List.replicate_succ, List.replicate_zero, bindTg, setSlots, List.length_cons, List.length_nil, Nat.reduceAdd, Nat.reduceSub, Nat.reduceLT, ↓reduceIte, if_true, bf_int, bf_lent, bf_lenl, bf_lena, sub_t, sub_l, sub_a, c5, e]
      rfl
    | act =>
      show callF T (m + 1 + 1) 14 [v] h = _
      rw [callF_n T (m + 1) 14 _ h _ B.f14 (B.fz 14 (by omega)) rfl]
      show retO (exB T (callF T (m + 1)) b14 [some v] h) = _
      rw [b14e]
      exact nameds (rowsOf .act) (by decide)
    | move =>
      show callF T (m + 1 + 1) 17 [v] h = _
      rw [callF_n T (m + 1) 17 _ h _ B.f17 (B.fz 17 (by omega)) rfl]
      show retO (exB T (callF T (m + 1)) b17 [some v] h) = _
      rw [b17e]
      exact nameds (rowsOf .move) (by decide)
    | word =>
      show callF T (m + 1 + 1) 19 [v] h = _
      rw [callF_n T (m + 1) 19 _ h _ B.f19 (B.fz 19 (by omega)) rfl]
      show retO (exB T (callF T (m + 1)) b19 [some v] h) = _
      rw [b19e]
      exact nameds (rowsOf .word) (by decide)
    | wish =>
      show callF T (m + 1 + 1) 20 [v] h = _
      rw [callF_n T (m + 1) 20 _ h _ B.f20 (B.fz 20 (by omega)) rfl]
      show retO (exB T (callF T (m + 1)) b20 [some v] h) = _
      rw [b20e]
      exact nameds (rowsOf .wish) (by decide)
    | deed =>
      show callF T (m + 1 + 1) 21 [v] h = _
      rw [callF_n T (m + 1) 21 _ h _ B.f21 (B.fz 21 (by omega)) rfl]
      show retO (exB T (callF T (m + 1)) b21 [some v] h) = _
      rw [b21e]
      exact nameds (rowsOf .deed) (by decide)
end
end K72

/-! K72: the tables -/
namespace K72
open MP
mutual
def cval : E → Option Val
  | .cst v => some v
  | .tup es => match cvals es with
    | some vs => if vs.length ≤ line then some (.tup vs) else none
    | none => none
  | .lst false es => match cvals es with
    | some vs => if vs.length ≤ line then some (.lst vs) else none
    | none => none
  | .op .pow a b => match cval a, cval b with
    | some x, some y => opV Heap.empty .pow x y
    | _, _ => none
  | .op .mul a b => match cval a, cval b with
    | some x, some y => opV Heap.empty .mul x y
    | _, _ => none
  | _ => none
def cvals : List E → Option (List Val)
  | [] => some []
  | e :: es => match cval e, cvals es with
    | some v, some vs => some (v :: vs)
    | _, _ => none
end
section
variable {T : Tb} {F : Fns} {ρ : Env} {h : Heap}
theorem pow_h (x y : Val) : opV h .pow x y = opV Heap.empty .pow x y := rfl
theorem mul_h (x y : Val) : opV h .mul x y = opV Heap.empty .mul x y := rfl
mutual
theorem cval_ok : ∀ (e : E) (v : Val), cval e = some v → evE T F e ρ h = .ok v h
  | .cst v, _, q => by unfold cval at q; cases q; exact evE_cst T F ρ h v
  | .tup es, v, q => by
    unfold cval at q
    split at q
    · rename_i vs e
      split at q
      · rename_i hl
        cases q
        rw [evE_tup, cvals_ok es vs e]
        simp only [Out.bind_ok, if_pos hl]
      · cases q
    · cases q
  | .lst false es, v, q => by
    unfold cval at q
    split at q
    · rename_i vs e
      split at q
      · rename_i hl
        cases q
        rw [evE_lst, cvals_ok es vs e]
        exact newL_v hl
      · cases q
    · cases q
  | .op .pow a b, v, q => by
    unfold cval at q
    split at q
    · rename_i x y e1 e2
      rw [evE_op, cval_ok a x e1]
      simp only [Out.bind_ok]
      rw [cval_ok b y e2]
      simp only [Out.bind_ok]
      rw [pow_h, q]
      rfl
    · cases q
  | .op .mul a b, v, q => by
    unfold cval at q
    split at q
    · rename_i x y e1 e2
      rw [evE_op, cval_ok a x e1]
      simp only [Out.bind_ok]
      rw [cval_ok b y e2]
      simp only [Out.bind_ok]
      rw [mul_h, q]
      rfl
    · cases q
  | .lst true _, _, q | .var _, _, q | .dic, _, q | .dicI _, _, q | .gin _ _, _, q | .gget _ _, _, q | .lenset _, _, q | .chain _ _ _ _ _, _, q | .neg _, _, q | .not _, _, q | .and _ _, _, q | .or _ _, _, q | .ite _ _ _, _, q | .attr _ _, _, q | .sub _ _, _, q | .slice _ _ _ _, _, q | .call _ _, _, q | .callK _ _ _, _, q
  | .make _ _, _, q | .makeK _ _ _, _, q | .callV _ _, _, q | .meth _ _ _, _, q | .bm _ _ _, _, q | .bf _ _ _, _, q | .dict _, _, q | .isi _ _, _, q | .comp _ _ _ _ _ _ _, _, q | .stop, _, q => by unfold cval at q; cases q
  | .op .add _ _, _, q | .op .sub _ _, _, q | .op .fdiv _ _, _, q | .op .mod _ _, _, q | .op .eq _ _, _, q | .op .ne _ _, _, q | .op .lt _ _, _, q | .op .le _ _, _, q | .op .gt _ _, _, q | .op .ge _ _, _, q | .op .is _ _, _, q | .op .isnot _ _, _, q | .op .isin _ _, _, q | .op .notin _ _, _, q => by unfold cval at q; cases q
theorem cvals_ok : ∀ (es : List E) (vs : List Val), cvals es = some vs → evEs T F es ρ h = .ok vs h
  | [], _, q => by unfold cvals at q; cases q; exact evEs_nil T F ρ h
  | e :: es, vs, q => by
    unfold cvals at q
    split at q
    · rename_i v ws e1 e2
      cases q
      rw [evEs_cons, cval_ok e v e1]
      simp only [Out.bind_ok]
      rw [cvals_ok es ws e2]
      rfl
    · cases q
end
theorem evE_dicC {es : List E} {vs : List Val} {kvs : List (Val × Val)} (e1 : cvals es = some vs) (e2 : pairsV vs = some kvs) (e3 : kvs.length ≤ 15) : evE T F (.dicI es) ρ h = .ok (.ref h.n) (h.push (.dic (dPuts [] kvs) false)) := by
  conv => lhs; unfold evE
  rw [cvals_ok es vs e1]
  simp only [Out.bind_ok, e2, if_pos e3]
theorem in_dic (d : List (Val × Val)) (s : List Nat) : opV (h.push (.dic d false)) .isin (.str s) (.ref h.n) = some (.bl (dGet d (.str s)).isSome) := by
  have : (h.push (.dic d false)).c h.n = some (.dic d false) := if_pos rfl
  simp [opV, inVal, this, isKey]
theorem sub_dic (d : List (Val × Val)) (s : List Nat) : subV (h.push (.dic d false)) (.ref h.n) (.str s) = dGet d (.str s) := by
  have : (h.push (.dic d false)).c h.n = some (.dic d false) := if_pos rfl
  simp [subV, this, isKey]
theorem fold_push {c : Cell} {v w : Val} (e : frzV h (h.push c) 64 v = some w) : fold h (.ok v (h.push c)) = .ok w h := by
  have s : same h (h.push c) := fun r hr => if_neg (Nat.ne_of_lt hr)
  unfold fold
  simp only [if_pos s, e]
end
/-! ### the four tables -/
def es_of : List S → List E
  | .asg _ (.dicI es) :: _ => es
  | [.ret (.sub (.dicI es) _)] => es
  | _ => []
def kv_of (b : List S) : List (Val × Val) := ((cvals (es_of b)).bind pairsV).getD []
def vs_of (b : List S) : List Val := (cvals (es_of b)).getD []
def itemsV (K : Kd) : Val := match parts K with
  | .row ks => .lst (ks.map fun k => .str (nm k))
  | _ => .non
def rowsV (K : Kd) : Val := match parts K with
  | .named rs => .lst (rs.map fun p => .tup [.str p.1, .lst (p.2.map fun k => .str (nm k))])
  | _ => .non
def mostV : Kd → Option Int
  | .n => some 4294967295 | .a => some 1000000000000000 | .h => some 1000000000000 | .f => some 3000000000000000 | .hands => some 4 | .locks => some 30 | .step => some 16
  | _ => none
def rowV : Kd → Option Kd
  | .hands => some .n | .locks => some .lock | .step => some .move
  | _ => none
section
variable {T : Tb} (B : Tab T)
include B
theorem items (d : Nat) (K : Kd) (h : Heap) : callF T (d + 1) 24 [.str (nm K)] h = .ok (itemsV K) h := by
  rw [callF_z T d 24 _ h _ B.f24 (B.fz1 24 (by omega) (by omega)) rfl]
  have eb : b24 = [.asg (.name 1) (.dicI (es_of b24)), .ife (.op .isin (.var 0) (.var 1)) [.ret (.sub (.var 1) (.var 0))] [], .ret (.cst (.non))] := rfl
  have e1 : cvals (es_of b24) = some (vs_of b24) := rfl
  have e2 : pairsV (vs_of b24) = some (kv_of b24) := rfl
  have ed := evE_dicC (T := T) (F := callF T d) (ρ := [some (.str (nm K)), none]) (h := h) e1 e2 (by decide)
  have eg : (dGet (dPuts [] (kv_of b24)) (.str (nm K))).getD .non = itemsV K := by cases K <;> rfl
  have ez : frzV h (h.push (.dic (dPuts [] (kv_of b24)) false)) 64 (itemsV K) = some (itemsV K) := by cases K <;> rfl
  show fold h (retO (exB T (callF T d) b24 [some (.str (nm K)), none] h)) = _
  rw [eb]
  generalize es_of b24 = es at *
  generalize dPuts [] (kv_of b24) = dd at *
  cases q : dGet dd (.str (nm K)) with
  | none =>
    rw [q] at eg
    have eg : Val.non = itemsV K := eg
    rw [← eg] at ez ⊢
    simp only [evE_var, evE_cst, evE_tup, evE_lst, evE_op, evE_neg, evE_not, evE_and, evE_or, evE_ite, evE_sub, evE_slice, evE_call, evE_callK, evE_bm, evE_bf, evE_isi, evEs_nil, evEs_cons, exS_asg, exS_augN, exS_expr, exS_ret, exS_ife, exB_nil', exB_cons', bind_ok', stm_ok', next_nx', next_rt', bind_exc', stm_exc', next_exc', ifO_t, ifO_f, opt_some, varO_some, laidV_int, laidV_bl, laidV_str, laidV_tup, laidV_lst, retO_rt, retO_nx, v_add, v_sub, v_lt, v_le, v_gt, v_ge, v_eqi, v_nei, t_bl, t_int, ofOpt_some', List.getElem?_cons_zero, List.getElem?_cons_succ, List.set_cons_zero, List.set_cons_succ, List.map_cons, List.map_nil, List.cons_append, List.nil_append, List.replicate_succ, List.replicate_zero, bindTg, setSlots, List.length_cons, List.length_nil, Nat.reduceAdd, Nat.reduceSub, Nat.reduceLT, ↓reduceIte, if_true, bf_int, bf_lent, bf_lenl, bf_lena, sub_t, sub_l, sub_a, ed, in_dic, q, Option.isSome_none]
    exact fold_push ez
  | some v =>
    rw [q] at eg
    have eg : v = itemsV K := eg
    rw [← eg] at ez ⊢
    simp only [evE_var, evE_cst, evE_tup, evE_lst, evE_op, evE_neg, evE_not, evE_and, evE_or, evE_ite, evE_sub, evE_slice, evE_call, evE_callK, evE_bm, evE_bf, evE_isi, evEs_nil, evEs_cons, exS_asg, exS_augN, exS_expr, exS_ret, exS_ife, exB_nil', exB_cons', bind_ok', stm_ok', next_nx', next_rt', bind_exc', stm_exc', next_exc', ifO_t, ifO_f, opt_some, varO_some, laidV_int, laidV_bl, laidV_str, laidV_tup, laidV_lst, retO_rt, retO_nx, v_add, v_sub, v_lt, v_le, v_gt, v_ge, v_eqi, v_nei, t_bl, t_int, ofOpt_some', List.getElem?_cons_zero, List.getElem?_cons_succ, List.set_cons_zero, List.set_cons_succ, List.map_cons, List.map_nil, List.cons_append, List.nil_append, List.replicate_succ, List.replicate_zero, bindTg, setSlots, List.length_cons, List.length_nil, Nat.reduceAdd, Nat.reduceSub, Nat.reduceLT, ↓reduceIte, if_true, bf_int, bf_lent, bf_lenl, bf_lena, sub_t, sub_l, sub_a, ed, in_dic, sub_dic, q, Option.isSome_some]
    exact fold_push ez
theorem rowsT (d : Nat) (K : Kd) (h : Heap) : callF T (d + 1) 25 [.str (nm K)] h = .ok (rowsV K) h := by
  rw [callF_z T d 25 _ h _ B.f25 (B.fz1 25 (by omega) (by omega)) rfl]
  have eb : b25 = [.asg (.name 1) (.dicI (es_of b25)), .ife (.op .isin (.var 0) (.var 1)) [.ret (.sub (.var 1) (.var 0))] [], .ret (.cst (.non))] := rfl
  have e1 : cvals (es_of b25) = some (vs_of b25) := rfl
  have e2 : pairsV (vs_of b25) = some (kv_of b25) := rfl
  have ed := evE_dicC (T := T) (F := callF T d) (ρ := [some (.str (nm K)), none]) (h := h) e1 e2 (by decide)
  have eg : (dGet (dPuts [] (kv_of b25)) (.str (nm K))).getD .non = rowsV K := by cases K <;> rfl
  have ez : frzV h (h.push (.dic (dPuts [] (kv_of b25)) false)) 64 (rowsV K) = some (rowsV K) := by cases K <;> rfl
  show fold h (retO (exB T (callF T d) b25 [some (.str (nm K)), none] h)) = _
  rw [eb]
  generalize es_of b25 = es at *
  generalize dPuts [] (kv_of b25) = dd at *
  cases q : dGet dd (.str (nm K)) with
  | none =>
    rw [q] at eg
    have eg : Val.non = rowsV K := eg
    rw [← eg] at ez ⊢
    simp only [evE_var, evE_cst, evE_tup, evE_lst, evE_op, evE_neg, evE_not, evE_and, evE_or, evE_ite, evE_sub, evE_slice, evE_call, evE_callK, evE_bm, evE_bf, evE_isi, evEs_nil, evEs_cons, exS_asg, exS_augN, exS_expr, exS_ret, exS_ife, exB_nil', exB_cons', bind_ok', stm_ok', next_nx', next_rt', bind_exc', stm_exc', next_exc', ifO_t, ifO_f, opt_some, varO_some, laidV_int, laidV_bl, laidV_str, laidV_tup, laidV_lst, retO_rt, retO_nx, v_add, v_sub, v_lt, v_le, v_gt, v_ge, v_eqi, v_nei, t_bl, t_int, ofOpt_some', List.getElem?_cons_zero, List.getElem?_cons_succ, List.set_cons_zero, List.set_cons_succ, List.map_cons, List.map_nil, List.cons_append, List.nil_append, List.replicate_succ, List.replicate_zero, bindTg, setSlots, List.length_cons, List.length_nil, Nat.reduceAdd, Nat.reduceSub, Nat.reduceLT, ↓reduceIte, if_true, bf_int, bf_lent, bf_lenl, bf_lena, sub_t, sub_l, sub_a, ed, in_dic, q, Option.isSome_none]
    exact fold_push ez
  | some v =>
    rw [q] at eg
    have eg : v = rowsV K := eg
    rw [← eg] at ez ⊢
    simp only [evE_var, evE_cst, evE_tup, evE_lst, evE_op, evE_neg, evE_not, evE_and, evE_or, evE_ite, evE_sub, evE_slice, evE_call, evE_callK, evE_bm, evE_bf, evE_isi, evEs_nil, evEs_cons, exS_asg, exS_augN, exS_expr, exS_ret, exS_ife, exB_nil', exB_cons', bind_ok', stm_ok', next_nx', next_rt', bind_exc', stm_exc', next_exc', ifO_t, ifO_f, opt_some, varO_some, laidV_int, laidV_bl, laidV_str, laidV_tup, laidV_lst, retO_rt, retO_nx, v_add, v_sub, v_lt, v_le, v_gt, v_ge, v_eqi, v_nei, t_bl, t_int, ofOpt_some', List.getElem?_cons_zero, List.getElem?_cons_succ, List.set_cons_zero, List.set_cons_succ, List.map_cons, List.map_nil, List.cons_append, List.nil_append, List.replicate_succ, List.replicate_zero, bindTg, setSlots, List.length_cons, List.length_nil, Nat.reduceAdd, Nat.reduceSub, Nat.reduceLT, ↓reduceIte, if_true, bf_int, bf_lent, bf_lenl, bf_lena, sub_t, sub_l, sub_a, ed, in_dic, sub_dic, q, Option.isSome_some]
    exact fold_push ez
theorem mostT (d : Nat) (K : Kd) (i : Int) (hK : mostV K = some i) (h : Heap) : callF T (d + 1) 26 [.str (nm K)] h = .ok (.int i) h := by
  rw [callF_z T d 26 _ h _ B.f26 (B.fz1 26 (by omega) (by omega)) rfl]
  have eb : b26 = [.asg (.name 1) (.dicI (es_of b26)), .ret (.sub (.var 1) (.var 0))] := rfl
  have e1 : cvals (es_of b26) = some (vs_of b26) := rfl
  have e2 : pairsV (vs_of b26) = some (kv_of b26) := rfl
  have ed := evE_dicC (T := T) (F := callF T d) (ρ := [some (.str (nm K)), none]) (h := h) e1 e2 (by decide)
  have eg : dGet (dPuts [] (kv_of b26)) (.str (nm K)) = some (.int i) := by
    rw [← Option.some_inj.mpr (congrArg Val.int rfl)]
    cases K <;> cases hK <;> rfl
  show fold h (retO (exB T (callF T d) b26 [some (.str (nm K)), none] h)) = _
  rw [eb]
  generalize es_of b26 = es at *
  generalize dPuts [] (kv_of b26) = dd at *
  simp only [evE_var, evE_cst, evE_tup, evE_lst, evE_op, evE_neg, evE_not, evE_and, evE_or, evE_ite, evE_sub, evE_slice, evE_call, evE_callK, evE_bm, evE_bf, evE_isi, evEs_nil, evEs_cons, exS_asg, exS_augN, exS_expr, exS_ret, exS_ife, exB_nil', exB_cons', bind_ok', stm_ok', next_nx', next_rt', bind_exc', stm_exc', next_exc', ifO_t, ifO_f, opt_some, varO_some, laidV_int, laidV_bl, laidV_str, laidV_tup, laidV_lst, retO_rt, retO_nx, v_add, v_sub, v_lt, v_le, v_gt, v_ge, v_eqi, v_nei, t_bl, t_int, ofOpt_some', List.getElem?_cons_zero, List.getElem?_cons_succ, List.set_cons_zero, List.set_cons_succ, List.map_cons, List.map_nil, List.cons_append, List.nil_append, List.replicate_succ, List.replicate_zero, bindTg, setSlots, List.length_cons, List.length_nil, Nat.reduceAdd, Nat.reduceSub, Nat.reduceLT, ↓reduceIte, if_true, bf_int, bf_lent, bf_lenl, bf_lena, sub_t, sub_l, sub_a, ed, sub_dic, eg]
  exact fold_push rfl
theorem rowOfT (d : Nat) (K k : Kd) (hK : rowV K = some k) (h : Heap) : callF T (d + 1) 27 [.str (nm K)] h = .ok (.str (nm k)) h := by
  rw [callF_z T d 27 _ h _ B.f27 (B.fz1 27 (by omega) (by omega)) rfl]
  have eb : b27 = [.ret (.sub (.dicI (es_of b27)) (.var 0))] := rfl
  have e1 : cvals (es_of b27) = some (vs_of b27) := rfl
  have e2 : pairsV (vs_of b27) = some (kv_of b27) := rfl
  have ed := evE_dicC (T := T) (F := callF T d) (ρ := [some (.str (nm K))]) (h := h) e1 e2 (by decide)
  have eg : dGet (dPuts [] (kv_of b27)) (.str (nm K)) = some (.str (nm k)) := by cases K <;> cases hK <;> rfl
  show fold h (retO (exB T (callF T d) b27 [some (.str (nm K))] h)) = _
  rw [eb]
  generalize es_of b27 = es at *
  generalize dPuts [] (kv_of b27) = dd at *
  simp only [evE_var, evE_cst, evE_tup, evE_lst, evE_op, evE_neg, evE_not, evE_and, evE_or, evE_ite, evE_sub, evE_slice, evE_call, evE_callK, evE_bm, evE_bf, evE_isi, evEs_nil, evEs_cons, exS_asg, exS_augN, exS_expr, exS_ret, exS_ife, exB_nil', exB_cons', bind_ok', stm_ok', next_nx', next_rt', bind_exc', stm_exc', next_exc', ifO_t, ifO_f, opt_some, varO_some, laidV_int, laidV_bl, laidV_str, laidV_tup, laidV_lst, retO_rt, retO_nx, v_add, v_sub, v_lt, v_le, v_gt, v_ge, v_eqi, v_nei, t_bl, t_int, ofOpt_some', List.getElem?_cons_zero, List.getElem?_cons_succ, List.set_cons_zero, List.set_cons_succ, List.map_cons, List.map_nil, List.cons_append, List.nil_append, List.replicate_succ, List.replicate_zero, bindTg, setSlots, List.length_cons, List.length_nil, Nat.reduceAdd, Nat.reduceSub, Nat.reduceLT, ↓reduceIte, if_true, bf_int, bf_lent, bf_lenl, bf_lena, sub_t, sub_l, sub_a, ed, sub_dic, eg]
  exact fold_push rfl
end
end K72

/-! K72: values are made -/
namespace K72
open MP
theorem compL_all {G : Heap → Prop} {step : Val → Heap → Out (List Val)} {P : Val → Prop} {h : Heap} (hG : G h) : ∀ {items : List Val}, (∀ x ∈ items, ∃ y, step x h = .ok [y] h ∧ P y) → ∃ ys, compL G step items h = .ok ys h ∧ ys.length = items.length ∧ ∀ y ∈ ys, P y
  | [], _ => ⟨[], rfl, rfl, fun y hy => by cases hy⟩
  | x :: r, hs => by
    obtain ⟨y, e, p⟩ := hs x List.mem_cons_self
    obtain ⟨ys, e2, l, q⟩ := compL_all (P := P) hG fun z hz => hs z (List.mem_cons_of_mem _ hz)
    refine ⟨y :: ys, ?_, by simp [l], fun z hz => by
      rcases List.mem_cons.mp hz with rfl | hz
      · exact p
      · exact q z hz⟩
    unfold compL
    rw [e]
    dsimp only
    rw [if_pos hG, e2]
    rfl
theorem compL_row {G : Heap → Prop} {step : Val → Heap → Out (List Val)} {g : Kd → Val → Bool} {h : Heap} (hG : G h) (ks : List Kd) (hs : ∀ (j : Nat) (k : Kd), ks[j]? = some k → ∃ y, step (.int (j : Int)) h = .ok [y] h ∧ g k y = true) : ∀ (r : List Kd) (j : Nat), ks.drop j = r → ∃ ys, compL G step (upto (j : Int) r.length) h = .ok ys h ∧ okR g r ys = true
  | [], j, _ => ⟨[], rfl, rfl⟩
  | k :: r, j, e => by
    have ek : ks[j]? = some k := by
      have : (ks.drop j)[0]? = some k := by rw [e]; rfl
      rwa [List.getElem?_drop, Nat.add_zero] at this
    obtain ⟨y, e1, p⟩ := hs j k ek
    obtain ⟨ys, e2, q⟩ := compL_row hG ks hs r (j + 1) (by
      have := congrArg (List.drop 1) e
      rw [List.drop_drop] at this
      exact this)
    refine ⟨y :: ys, ?_, by unfold okR; rw [p, q]; rfl⟩
    have eu : upto (j : Int) (k :: r).length = .int (j : Int) :: upto ((j + 1 : Nat) : Int) r.length := rfl
    rw [eu]
    unfold compL
    rw [e1]
    dsimp only
    rw [if_pos hG, e2]
    rfl
theorem at_mod {α : Type} (xs : List α) {n : Int} (hn : 0 < n) (hl : (xs.length : Int) = n) (i : Int) : ∃ x, x ∈ xs ∧ at_ xs (i.fmod n) = some x := by
  have h1 : 0 ≤ i.fmod n := Int.fmod_nonneg_of_pos i hn
  have h2 : i.fmod n < n := Int.fmod_lt_of_pos i hn
  obtain ⟨k, hk⟩ : ∃ k : Nat, i.fmod n = k := ⟨(i.fmod n).toNat, by omega⟩
  rw [hk] at h1 h2 ⊢
  have hk2 : k < xs.length := by omega
  exact ⟨xs[k], List.getElem_mem hk2, by rw [at_nat, List.getElem?_eq_getElem hk2]⟩
theorem bf_tupl (h : Heap) (xs : List Val) : bfV h .tuple [.lst xs] = some (.tup xs) := Eq.trans rfl rfl
theorem bf_lenl' (h : Heap) (xs : List Val) : bfV h .len [.lst xs] = some (.int xs.length) := Eq.trans rfl rfl
theorem isnot_x (h : Heap) (x : Val) (q : x ≠ .non) : opV h .isnot x .non = some (.bl true) := by simp [opV, isv_non x q]
theorem isnot_nn (h : Heap) : opV h .isnot .non .non = some (.bl false) := Eq.trans rfl rfl
theorem upto_len : ∀ (n : Nat) (lo : Int), (upto lo n).length = n
  | 0, _ => rfl
  | n + 1, lo => congrArg Nat.succ (upto_len n (lo + 1))
theorem upto_mem : ∀ (n : Nat) (lo : Int) (x : Val), x ∈ upto lo n → ∃ j : Nat, j < n ∧ x = .int (lo + j)
  | 0, _, _, h => by cases h
  | n + 1, lo, x, h => by
    rcases List.mem_cons.mp h with rfl | h
    · exact ⟨0, by omega, by simp⟩
    · obtain ⟨j, a, rfl⟩ := upto_mem n (lo + 1) x h
      exact ⟨j + 1, by omega, by congr 1; omega⟩
theorem rng_ok {n : Nat} (h : n ≤ 16777216) (g : Heap) : walkV g 2 [.int (n : Int)] = some (upto 0 n) := by
  have q : rngOk (n : Int) := by
    unfold rngOk
    have a1 : (16777216 : Int) < 2 ^ 62 := by decide
    generalize (2 : Int) ^ 62 = z at *
    omega
  have e : walkV g 2 [.int (n : Int)] = some (upto 0 (n : Int).toNat) := by simp only [walkV, if_pos q]
  rw [e, Int.toNat_natCast]
def isB (K : Kd) : Bool := decide (K = .b)
def isN (K : Kd) : Bool := decide (K = .n ∨ K = .a ∨ K = .h)
def isF (K : Kd) : Bool := decide (K = .f)
def isM (K : Kd) : Bool := decide (K = .hands ∨ K = .locks ∨ K = .step)
theorem q_b (h : Heap) (K : Kd) : opV h .eq (.str (nm K)) (.str [98]) = some (.bl (isB K)) := by cases K <;> exact Eq.trans rfl rfl
theorem q_f (h : Heap) (K : Kd) : opV h .eq (.str (nm K)) (.str [102]) = some (.bl (isF K)) := by cases K <;> exact Eq.trans rfl rfl
theorem q_n (h : Heap) (K : Kd) : opV h .isin (.str (nm K)) (.tup [.str [110], .str [97], .str [104]]) = some (.bl (isN K)) := by cases K <;> exact Eq.trans rfl rfl
theorem q_nf (h : Heap) (K : Kd) : opV h .isin (.str (nm K)) (.tup [.str [110], .str [97], .str [104], .str [102]]) = some (.bl (isN K || isF K)) := by cases K <;> exact Eq.trans rfl rfl
theorem q_m (h : Heap) (K : Kd) : opV h .isin (.str (nm K)) (.tup [.str [104, 97, 110, 100, 115], .str [108, 111, 99, 107, 115], .str [115, 116, 101, 112]]) = some (.bl (isM K)) := by cases K <;> exact Eq.trans rfl rfl
section
variable {T : Tb} (B : Tab T)
include B
omit B in
theorem ln : (3 ≤ line) = True ∧ (4 ≤ line) = True ∧ (7 ≤ line) = True ∧ (5 ≤ line) = True ∧ (1 ≤ line) = True ∧ (0 ≤ line) = True :=
  ⟨eq_true (by decide), eq_true (by decide), eq_true (by decide), eq_true (by decide), eq_true (by decide), eq_true (by decide)⟩
omit B in
theorem newF {xs : List Val} {h : Heap} (q : (xs.length ≤ line) = True) : newL false xs h = .ok (.lst xs) h := newL_v (of_eq_true q)
/-- the comprehension over a row's kinds -/
theorem comp_row (F : Fns) (g : Kd → Val → Bool) (ks : List Kd) (hl : ks.length ≤ 100) (h : Heap) (r : Int) (hF : ∀ k ∈ ks, ∀ i, ∃ y, F 28 [.str (nm k), .int i] h = .ok y h ∧ g k y = true) (a b d4 d5 d6 d7 : Option Val) :
    ∃ ys, evE T F (.comp false (.call 28 [(.sub (.var 3) (.var 7)), (.op .add (.op .fdiv (.bf .int false [(.var 2)]) (.op .add (.cst (.int 1)) (.op .mul (.cst (.int 3)) (.var 7)))) (.var 7))]) (.name 7) 2 [(.bf .len false [(.var 3)])] [] [7]) [a, b, some (.int r), some (.lst (ks.map fun k => .str (nm k))), d4, d5, d6, d7] h = .ok (.lst ys) h ∧ okR g ks ys = true := by
  have lin : line = 16777216 := rfl
  have key : ∀ (j : Nat) (k : Kd), ks[j]? = some k → ∃ y, cTurn T F (.call 28 [(.sub (.var 3) (.var 7)), (.op .add (.op .fdiv (.bf .int false [(.var 2)]) (.op .add (.cst (.int 1)) (.op .mul (.cst (.int 3)) (.var 7)))) (.var 7))]) (.name 7) [] [7] [a, b, some (.int r), some (.lst (ks.map fun k => .str (nm k))), d4, d5, d6, d7] (.int (j : Int)) h = .ok [y] h ∧ g k y = true := fun j k ek => by
    have hj := (List.getElem?_eq_some_iff.mp ek).1
    obtain ⟨y, e, p⟩ := hF k (List.mem_of_getElem? ek) (r.fdiv (1 + 3 * (j : Int)) + j)
    refine ⟨y, ?_, p⟩
    have m1 : opV h .mul (.int 3) (.int (j : Int)) = some (.int (3 * (j : Int))) := v_mul1 h (by decide)
    have f1 : opV h .fdiv (.int r) (.int (1 + 3 * (j : Int))) = some (.int (r.fdiv (1 + 3 * (j : Int)))) := v_fdiv h ⟨by omega, by
      have : bound30 = 2 ^ 30 := rfl
      omega⟩
    have l0 : at_ (ks.map fun k => Val.str (nm k)) (j : Int) = some (.str (nm k)) := by rw [at_nat, List.getElem?_map, ek]; rfl
    have ew : wipeS [a, b, some (.int r), some (.lst (ks.map fun k => .str (nm k))), d4, d5, d6, d7] [7] = [a, b, some (.int r), some (.lst (ks.map fun k => .str (nm k))), d4, d5, d6, none] := rfl
    unfold cTurn
    rw [ew]
    simp only [evE_var, evE_cst, evE_tup, evE_lst, evE_op, evE_neg, evE_not, evE_and, evE_or, evE_ite, evE_sub, evE_slice, evE_call, evE_callK, evE_bm, evE_bf, evE_isi, evEs_nil, evEs_cons, exS_asg, exS_augN, exS_expr, exS_ret, exS_ife, exB_nil', exB_cons', bind_ok', stm_ok', next_nx', next_rt', bind_exc', stm_exc', next_exc', ifO_t, ifO_f, opt_some, varO_some, laidV_int, laidV_bl, laidV_str, laidV_tup, laidV_lst, retO_rt, retO_nx, v_add, v_sub, v_lt, v_le, v_gt, v_ge, v_eqi, v_nei, t_bl, t_int, ofOpt_some', List.getElem?_cons_zero, List.getElem?_cons_succ, List.set_cons_zero, List.set_cons_succ, List.map_cons, List.map_nil, List.cons_append, List.nil_append, List.replicate_succ, List.replicate_zero, bindTg, setSlots, List.length_cons, List.length_nil, Nat.reduceAdd, Nat.reduceSub, Nat.reduceLT, ↓reduceIte, if_true, bf_int, bf_lent, bf_lenl, bf_lena, sub_t, sub_l, sub_a, m1, f1, l0, e]
  obtain ⟨ys, e, q⟩ := compL_row (G := fun h' => stays h h' [.int (ks.length : Int)]) (g := g) (h := h) stays_int ks key ks 0 rfl
  refine ⟨ys, ?_, q⟩
  have yl := okR_len ks ys q
  rw [evE_comp' _ _ _ _ (by decide)]
  simp only [evE_var, evE_cst, evE_tup, evE_lst, evE_op, evE_neg, evE_not, evE_and, evE_or, evE_ite, evE_sub, evE_slice, evE_call, evE_callK, evE_bm, evE_bf, evE_isi, evEs_nil, evEs_cons, exS_asg, exS_augN, exS_expr, exS_ret, exS_ife, exB_nil', exB_cons', bind_ok', stm_ok', next_nx', next_rt', bind_exc', stm_exc', next_exc', ifO_t, ifO_f, opt_some, varO_some, laidV_int, laidV_bl, laidV_str, laidV_tup, laidV_lst, retO_rt, retO_nx, v_add, v_sub, v_lt, v_le, v_gt, v_ge, v_eqi, v_nei, t_bl, t_int, ofOpt_some', List.getElem?_cons_zero, List.getElem?_cons_succ, List.set_cons_zero, List.set_cons_succ, List.map_cons, List.map_nil, List.cons_append, List.nil_append, List.replicate_succ, List.replicate_zero, bindTg, setSlots, List.length_cons, List.length_nil, Nat.reduceAdd, Nat.reduceSub, Nat.reduceLT, ↓reduceIte, if_true, bf_int, bf_lent, bf_lenl, bf_lena, sub_t, sub_l, sub_a, List.length_map, rng_ok (show ks.length ≤ 16777216 by omega)]
  have e : compL (fun h' => stays h h' [.int (ks.length : Int)]) _ (upto 0 ks.length) h = _ := e
  rw [e]
  simp only [compO_ok]
  exact newL_v (by omega)
theorem mk_flag (d : Nat) (i : Int) (h : Heap) (g : Kd → Val → Bool) : ∃ v, callF T (d + 1) 28 [.str (nm .b), .int i] h = .ok v h ∧ okP g .flag v = true := by
  have f7 : opV h .fdiv (.int i) (.int 7) = some (.int (i.fdiv 7)) := v_fdiv h (by decide)
  have m2 : opV h .mod (.int i) (.int 2) = some (.int (i.fmod 2)) := v_mod h (by decide)
  have qb := q_b h .b
  have eb : isB .b = true := rfl
  rw [callF_n T d 28 _ h _ B.f28 (B.fz 28 (by omega)) rfl]
  refine ⟨.bl (i.fmod 2 == 0), ?_, rfl⟩
  simp only [b28, evE_var, evE_cst, evE_tup, evE_lst, evE_op, evE_neg, evE_not, evE_and, evE_or, evE_ite, evE_sub, evE_slice, evE_call, evE_callK, evE_bm, evE_bf, evE_isi, evEs_nil, evEs_cons, exS_asg, exS_augN, exS_expr, exS_ret, exS_ife, exB_nil', exB_cons', bind_ok', stm_ok', next_nx', next_rt', bind_exc', stm_exc', next_exc', ifO_t, ifO_f, opt_some, varO_some, laidV_int, laidV_bl, laidV_str, laidV_tup, laidV_lst, retO_rt, retO_nx, v_add, v_sub, v_lt, v_le, v_gt, v_ge, v_eqi, v_nei, t_bl, t_int, ofOpt_some', List.getElem?_cons_zero, List.getElem?_cons_succ, List.set_cons_zero, List.set_cons_succ, List.map_cons, List.map_nil, List.cons_append, List.nil_append, List.replicate_succ, List.replicate_zero, bindTg, setSlots, List.length_cons, List.length_nil, Nat.reduceAdd, Nat.reduceSub, Nat.reduceLT, ↓reduceIte, if_true, bf_int, bf_lent, bf_lenl, bf_lena, sub_t, sub_l, sub_a, f7, qb, eb, m2]
theorem mk_num (d : Nat) (K : Kd) (m : Int) (hN : isN K = true) (hm : mostV K = some m) (hp : 9 ≤ m) (i : Int) (h : Heap) (g : Kd → Val → Bool) : ∃ v, callF T (d + 2) 28 [.str (nm K), .int i] h = .ok v h ∧ okP g (.num 0 m) v = true := by
  obtain ⟨l3, l4, l7, l5, l1, l0⟩ := ln
  have f7 : opV h .fdiv (.int i) (.int 7) = some (.int (i.fdiv 7)) := v_fdiv h (by decide)
  have m4 : opV h .mod (.int i) (.int 4) = some (.int (i.fmod 4)) := v_mod h (by decide)
  have m9 : ∀ x : Int, opV h .mod (.int x) (.int 9) = some (.int (x.fmod 9)) := fun x => v_mod h (by decide)
  have mm : ∀ x : Int, opV h .mod (.int x) (.int (m + 1)) = some (.int (x.fmod (m + 1))) := fun x => v_mod h (by omega)
  have em := mostT B d K m hm h
  have qb := q_b h K
  have eb : isB K = false := by cases K <;> first | rfl | cases hN
  have qn := q_n h K
  obtain ⟨x, hx, ex⟩ := at_mod [Val.int 0, .int m, .int ((i.fdiv 7).fmod 9), .int ((i.fdiv 7).fmod (m + 1))] (n := 4) (by decide) rfl i
  have r1 := Int.fmod_nonneg_of_pos (i.fdiv 7) (b := 9) (by decide)
  have r2 := Int.fmod_lt_of_pos (i.fdiv 7) (b := 9) (by decide)
  have r3 := Int.fmod_nonneg_of_pos (i.fdiv 7) (b := m + 1) (by omega)
  have r4 := Int.fmod_lt_of_pos (i.fdiv 7) (b := m + 1) (by omega)
  rw [callF_n T (d + 1) 28 _ h _ B.f28 (B.fz 28 (by omega)) rfl]
  refine ⟨x, ?_, ?_⟩
  · have n4 : newL false [Val.int 0, .int m, .int ((i.fdiv 7).fmod 9), .int ((i.fdiv 7).fmod (m + 1))] h = .ok (.lst _) h := newF l4
    simp only [b28, evE_var, evE_cst, evE_tup, evE_lst, evE_op, evE_neg, evE_not, evE_and, evE_or, evE_ite, evE_sub, evE_slice, evE_call, evE_callK, evE_bm, evE_bf, evE_isi, evEs_nil, evEs_cons, exS_asg, exS_augN, exS_expr, exS_ret, exS_ife, exB_nil', exB_cons', bind_ok', stm_ok', next_nx', next_rt', bind_exc', stm_exc', next_exc', ifO_t, ifO_f, opt_some, varO_some, laidV_int, laidV_bl, laidV_str, laidV_tup, laidV_lst, retO_rt, retO_nx, v_add, v_sub, v_lt, v_le, v_gt, v_ge, v_eqi, v_nei, t_bl, t_int, ofOpt_some', List.getElem?_cons_zero, List.getElem?_cons_succ, List.set_cons_zero, List.set_cons_succ, List.map_cons, List.map_nil, List.cons_append, List.nil_append, List.replicate_succ, List.replicate_zero, bindTg, setSlots, List.length_cons, List.length_nil, Nat.reduceAdd, Nat.reduceSub, Nat.reduceLT, ↓reduceIte, if_true, bf_int, bf_lent, bf_lenl, bf_lena, sub_t, sub_l, sub_a, f7, qb, eb, l3, qn, hN, em, m9, mm, m4, n4, ex]
  · have key : ∀ y : Int, 0 ≤ y → y ≤ m → okP g (.num 0 m) (.int y) = true := fun y a b => by
      unfold okP
      simp [a, b]
    simp only [List.mem_cons, List.not_mem_nil, or_false] at hx
    rcases hx with rfl | rfl | rfl | rfl
    · exact key _ (by omega) (by omega)
    · exact key _ (by omega) (by omega)
    · exact key _ (by omega) (by omega)
    · exact key _ (by omega) (by omega)
theorem mk_free (d : Nat) (i : Int) (h : Heap) (g : Kd → Val → Bool) : ∃ v, callF T (d + 2) 28 [.str (nm .f), .int i] h = .ok v h ∧ okP g (.num (-3000000000000000) 3000000000000000) v = true := by
  obtain ⟨l3, l4, l7, l5, l1, l0⟩ := ln
  have f7 : opV h .fdiv (.int i) (.int 7) = some (.int (i.fdiv 7)) := v_fdiv h (by decide)
  have m3 : opV h .mod (.int i) (.int 3) = some (.int (i.fmod 3)) := v_mod h (by decide)
  have m9 : ∀ x : Int, opV h .mod (.int x) (.int 9) = some (.int (x.fmod 9)) := fun x => v_mod h (by decide)
  have em := mostT B d .f 3000000000000000 rfl h
  have qb := q_b h .f
  have eb : isB .f = false := rfl
  have qn := q_n h .f
  have en : isN .f = false := rfl
  have qf := q_f h .f
  have ef : isF .f = true := rfl
  have z0 : (0 : Int) - 3000000000000000 = -3000000000000000 := by omega
  obtain ⟨x, hx, ex⟩ := at_mod [Val.int (0 - 3000000000000000), .int 3000000000000000, .int ((i.fdiv 7).fmod 9 - 4)] (n := 3) (by decide) rfl i
  have r1 := Int.fmod_nonneg_of_pos (i.fdiv 7) (b := 9) (by decide)
  have r2 := Int.fmod_lt_of_pos (i.fdiv 7) (b := 9) (by decide)
  rw [callF_n T (d + 1) 28 _ h _ B.f28 (B.fz 28 (by omega)) rfl]
  refine ⟨x, ?_, ?_⟩
  · have n4 : newL false [Val.int (0 - 3000000000000000), .int 3000000000000000, .int ((i.fdiv 7).fmod 9 - 4)] h = .ok (.lst _) h := newF l3
    simp only [b28, evE_var, evE_cst, evE_tup, evE_lst, evE_op, evE_neg, evE_not, evE_and, evE_or, evE_ite, evE_sub, evE_slice, evE_call, evE_callK, evE_bm, evE_bf, evE_isi, evEs_nil, evEs_cons, exS_asg, exS_augN, exS_expr, exS_ret, exS_ife, exB_nil', exB_cons', bind_ok', stm_ok', next_nx', next_rt', bind_exc', stm_exc', next_exc', ifO_t, ifO_f, opt_some, varO_some, laidV_int, laidV_bl, laidV_str, laidV_tup, laidV_lst, retO_rt, retO_nx, v_add, v_sub, v_lt, v_le, v_gt, v_ge, v_eqi, v_nei, t_bl, t_int, ofOpt_some', List.getElem?_cons_zero, List.getElem?_cons_succ, List.set_cons_zero, List.set_cons_succ, List.map_cons, List.map_nil, List.cons_append, List.nil_append, List.replicate_succ, List.replicate_zero, bindTg, setSlots, List.length_cons, List.length_nil, Nat.reduceAdd, Nat.reduceSub, Nat.reduceLT, ↓reduceIte, if_true, bf_int, bf_lent, bf_lenl, bf_lena, sub_t, sub_l, sub_a, f7, qb, eb, l3, qn, en, qf, ef, em, m9, m3, n4, ex]
  · have key : ∀ y : Int, -3000000000000000 ≤ y → y ≤ 3000000000000000 → okP g (.num (-3000000000000000) 3000000000000000) (.int y) = true := fun y a b => by
      unfold okP
      simp [a, b]
    simp only [List.mem_cons, List.not_mem_nil, or_false] at hx
    rcases hx with rfl | rfl | rfl
    · exact key _ (by omega) (by omega)
    · exact key _ (by omega) (by omega)
    · exact key _ (by omega) (by omega)
theorem number (d : Nat) (xs : List Int) (k : Nat) (h : Heap) : ∃ i, callF T (d + 1) 22 [.arr (xs.map .int), .int k] h = .ok (.int i) h := by
  rw [callF_n T d 22 _ h _ B.f22 (B.fz 22 (by omega)) rfl]
  have m1 : ∀ a : Int, opV h .mul (.int a) (.int 48271) = some (.int (a * 48271)) := fun a => v_mul2 h (by decide)
  have m2 : ∀ a : Int, opV h .mul (.int a) (.int 69621) = some (.int (a * 69621)) := fun a => v_mul2 h (by decide)
  have m3 : ∀ a : Int, opV h .mul (.int a) (.int 16807) = some (.int (a * 16807)) := fun a => v_mul2 h (by decide)
  have m4 : ∀ a : Int, opV h .mul (.int a) (.int 12345) = some (.int (a * 12345)) := fun a => v_mul2 h (by decide)
  have m5 : ∀ a : Int, opV h .mul (.int a) (.int 40692) = some (.int (a * 40692)) := fun a => v_mul2 h (by decide)
  have m6 : ∀ a : Int, opV h .mul (.int a) (.int 3791) = some (.int (a * 3791)) := fun a => v_mul2 h (by decide)
  have m7 : ∀ a : Int, opV h .mul (.int a) (.int 2147483647) = some (.int (a * 2147483647)) := fun a => v_mul2 h (by decide)
  have m8 : ∀ a : Int, opV h .mul (.int 2) (.int a) = some (.int (2 * a)) := fun a => v_mul1 h (by decide)
  have q1 : ∀ a : Int, opV h .mod (.int a) (.int 2147483647) = some (.int (a.fmod 2147483647)) := fun a => v_mod h (by decide)
  have q2 : ∀ a : Int, opV h .mod (.int a) (.int 2147483629) = some (.int (a.fmod 2147483629)) := fun a => v_mod h (by decide)
  have q3 : ∀ a : Int, opV h .mod (.int a) (.int 2147483399) = some (.int (a.fmod 2147483399)) := fun a => v_mod h (by decide)
  have p1 : opV h .pow (.int 10) (.int 9) = some (.int (10 ^ 9)) := v_pow h (by decide)
  have rest : ∀ (c : Int), ∃ i, retO (exB T (callF T d) (b22.drop 2) [some (.arr (xs.map .int)), some (.int k), some (.int c), none, none] h) = .ok (.int i) h := fun c => by
    have main : ∀ (c : Int), ∃ i, retO (exB T (callF T d) (b22.drop 3) [some (.arr (xs.map .int)), some (.int k), some (.int c), none, none] h) = .ok (.int i) h := fun c => by
      unfold b22
      simp only [List.drop_succ_cons, List.drop_zero, evE_var, evE_cst, evE_tup, evE_lst, evE_op, evE_neg, evE_not, evE_and, evE_or, evE_ite, evE_sub, evE_slice, evE_call, evE_callK, evE_bm, evE_bf, evE_isi, evEs_nil, evEs_cons, exS_asg, exS_augN, exS_expr, exS_ret, exS_ife, exB_nil', exB_cons', bind_ok', stm_ok', next_nx', next_rt', bind_exc', stm_exc', next_exc', ifO_t, ifO_f, opt_some, varO_some, laidV_int, laidV_bl, laidV_str, laidV_tup, laidV_lst, retO_rt, retO_nx, v_add, v_sub, v_lt, v_le, v_gt, v_ge, v_eqi, v_nei, t_bl, t_int, ofOpt_some', List.getElem?_cons_zero, List.getElem?_cons_succ, List.set_cons_zero, List.set_cons_succ, List.map_cons, List.map_nil, List.cons_append, List.nil_append, List.replicate_succ, List.replicate_zero, bindTg, setSlots, List.length_cons, List.length_nil, Nat.reduceAdd, Nat.reduceSub, Nat.reduceLT, ↓reduceIte, if_true, bf_int, bf_lent, bf_lenl, bf_lena, sub_t, sub_l, sub_a, m1, m2, m3, m4, m5, m6, m7, q1, q2, q3, p1]
      by_cases hc : (10 : Int) ^ 9 ≤ c
      · rw [decide_eq_true hc]
        simp only [evE_var, evE_cst, evE_tup, evE_lst, evE_op, evE_neg, evE_not, evE_and, evE_or, evE_ite, evE_sub, evE_slice, evE_call, evE_callK, evE_bm, evE_bf, evE_isi, evEs_nil, evEs_cons, exS_asg, exS_augN, exS_expr, exS_ret, exS_ife, exB_nil', exB_cons', bind_ok', stm_ok', next_nx', next_rt', bind_exc', stm_exc', next_exc', ifO_t, ifO_f, opt_some, varO_some, laidV_int, laidV_bl, laidV_str, laidV_tup, laidV_lst, retO_rt, retO_nx, v_add, v_sub, v_lt, v_le, v_gt, v_ge, v_eqi, v_nei, t_bl, t_int, ofOpt_some', List.getElem?_cons_zero, List.getElem?_cons_succ, List.set_cons_zero, List.set_cons_succ, List.map_cons, List.map_nil, List.cons_append, List.nil_append, List.replicate_succ, List.replicate_zero, bindTg, setSlots, List.length_cons, List.length_nil, Nat.reduceAdd, Nat.reduceSub, Nat.reduceLT, ↓reduceIte, if_true, bf_int, bf_lent, bf_lenl, bf_lena, sub_t, sub_l, sub_a]
        exact ⟨_, rfl⟩
      · rw [decide_eq_false hc]
        simp only [evE_var, evE_cst, evE_tup, evE_lst, evE_op, evE_neg, evE_not, evE_and, evE_or, evE_ite, evE_sub, evE_slice, evE_call, evE_callK, evE_bm, evE_bf, evE_isi, evEs_nil, evEs_cons, exS_asg, exS_augN, exS_expr, exS_ret, exS_ife, exB_nil', exB_cons', bind_ok', stm_ok', next_nx', next_rt', bind_exc', stm_exc', next_exc', ifO_t, ifO_f, opt_some, varO_some, laidV_int, laidV_bl, laidV_str, laidV_tup, laidV_lst, retO_rt, retO_nx, v_add, v_sub, v_lt, v_le, v_gt, v_ge, v_eqi, v_nei, t_bl, t_int, ofOpt_some', List.getElem?_cons_zero, List.getElem?_cons_succ, List.set_cons_zero, List.set_cons_succ, List.map_cons, List.map_nil, List.cons_append, List.nil_append, List.replicate_succ, List.replicate_zero, bindTg, setSlots, List.length_cons, List.length_nil, Nat.reduceAdd, Nat.reduceSub, Nat.reduceLT, ↓reduceIte, if_true, bf_int, bf_lent, bf_lenl, bf_lena, sub_t, sub_l, sub_a, m1, m2, m3, m4, m5, m6, m7, q1, q2, q3, p1]
        exact ⟨_, rfl⟩
    have e : b22.drop 2 = (b22.getD 2 .stop) :: b22.drop 3 := rfl
    rw [e]
    by_cases hc : c < 0
    · have := main (0 - 2 * c - 1)
      simp only [evE_var, evE_cst, evE_tup, evE_lst, evE_op, evE_neg, evE_not, evE_and, evE_or, evE_ite, evE_sub, evE_slice, evE_call, evE_callK, evE_bm, evE_bf, evE_isi, evEs_nil, evEs_cons, exS_asg, exS_augN, exS_expr, exS_ret, exS_ife, exB_nil', exB_cons', bind_ok', stm_ok', next_nx', next_rt', bind_exc', stm_exc', next_exc', ifO_t, ifO_f, opt_some, varO_some, laidV_int, laidV_bl, laidV_str, laidV_tup, laidV_lst, retO_rt, retO_nx, v_add, v_sub, v_lt, v_le, v_gt, v_ge, v_eqi, v_nei, t_bl, t_int, ofOpt_some', List.getElem?_cons_zero, List.getElem?_cons_succ, List.set_cons_zero, List.set_cons_succ, List.map_cons, List.map_nil, List.cons_append, List.nil_append, List.replicate_succ, List.replicate_zero, bindTg, setSlots, List.length_cons, List.length_nil, Nat.reduceAdd, Nat.reduceSub, Nat.reduceLT, ↓reduceIte, if_true, bf_int, bf_lent, bf_lenl, bf_lena, sub_t, sub_l, sub_a, b22, List.getD_cons_succ, List.getD_cons_zero, decide_eq_true hc, m8] at this ⊢
      exact this
    · have := main c
      simp only [evE_var, evE_cst, evE_tup, evE_lst, evE_op, evE_neg, evE_not, evE_and, evE_or, evE_ite, evE_sub, evE_slice, evE_call, evE_callK, evE_bm, evE_bf, evE_isi, evEs_nil, evEs_cons, exS_asg, exS_augN, exS_expr, exS_ret, exS_ife, exB_nil', exB_cons', bind_ok', stm_ok', next_nx', next_rt', bind_exc', stm_exc', next_exc', ifO_t, ifO_f, opt_some, varO_some, laidV_int, laidV_bl, laidV_str, laidV_tup, laidV_lst, retO_rt, retO_nx, v_add, v_sub, v_lt, v_le, v_gt, v_ge, v_eqi, v_nei, t_bl, t_int, ofOpt_some', List.getElem?_cons_zero, List.getElem?_cons_succ, List.set_cons_zero, List.set_cons_succ, List.map_cons, List.map_nil, List.cons_append, List.nil_append, List.replicate_succ, List.replicate_zero, bindTg, setSlots, List.length_cons, List.length_nil, Nat.reduceAdd, Nat.reduceSub, Nat.reduceLT, ↓reduceIte, if_true, bf_int, bf_lent, bf_lenl, bf_lena, sub_t, sub_l, sub_a, b22, List.getD_cons_succ, List.getD_cons_zero, decide_eq_false hc, m8] at this ⊢
      exact this
  have e : b22 = b22.getD 0 .stop :: b22.getD 1 .stop :: b22.drop 2 := rfl
  rw [e]
  by_cases hk : (k : Int) < (xs.map Val.int).length
  · have hk2 : k < xs.length := by simpa using hk
    have := rest (xs[k])
    simp only [evE_var, evE_cst, evE_tup, evE_lst, evE_op, evE_neg, evE_not, evE_and, evE_or, evE_ite, evE_sub, evE_slice, evE_call, evE_callK, evE_bm, evE_bf, evE_isi, evEs_nil, evEs_cons, exS_asg, exS_augN, exS_expr, exS_ret, exS_ife, exB_nil', exB_cons', bind_ok', stm_ok', next_nx', next_rt', bind_exc', stm_exc', next_exc', ifO_t, ifO_f, opt_some, varO_some, laidV_int, laidV_bl, laidV_str, laidV_tup, laidV_lst, retO_rt, retO_nx, v_add, v_sub, v_lt, v_le, v_gt, v_ge, v_eqi, v_nei, t_bl, t_int, ofOpt_some', List.getElem?_cons_zero, List.getElem?_cons_succ, List.set_cons_zero, List.set_cons_succ, List.map_cons, List.map_nil, List.cons_append, List.nil_append, List.replicate_succ, List.replicate_zero, bindTg, setSlots, List.length_cons, List.length_nil, Nat.reduceAdd, Nat.reduceSub, Nat.reduceLT, ↓reduceIte, if_true, bf_int, bf_lent, bf_lenl, bf_lena, sub_t, sub_l, sub_a, b22, List.getD_cons_succ, List.getD_cons_zero, decide_eq_true hk, at_nat, List.getElem?_map, List.getElem?_eq_getElem hk2, Option.map_some] at this ⊢
    exact this
  · have := rest 0
    simp only [evE_var, evE_cst, evE_tup, evE_lst, evE_op, evE_neg, evE_not, evE_and, evE_or, evE_ite, evE_sub, evE_slice, evE_call, evE_callK, evE_bm, evE_bf, evE_isi, evEs_nil, evEs_cons, exS_asg, exS_augN, exS_expr, exS_ret, exS_ife, exB_nil', exB_cons', bind_ok', stm_ok', next_nx', next_rt', bind_exc', stm_exc', next_exc', ifO_t, ifO_f, opt_some, varO_some, laidV_int, laidV_bl, laidV_str, laidV_tup, laidV_lst, retO_rt, retO_nx, v_add, v_sub, v_lt, v_le, v_gt, v_ge, v_eqi, v_nei, t_bl, t_int, ofOpt_some', List.getElem?_cons_zero, List.getElem?_cons_succ, List.set_cons_zero, List.set_cons_succ, List.map_cons, List.map_nil, List.cons_append, List.nil_append, List.replicate_succ, List.replicate_zero, bindTg, setSlots, List.length_cons, List.length_nil, Nat.reduceAdd, Nat.reduceSub, Nat.reduceLT, ↓reduceIte, if_true, bf_int, bf_lent, bf_lenl, bf_lena, sub_t, sub_l, sub_a, b22, List.getD_cons_succ, List.getD_cons_zero, decide_eq_false hk] at this ⊢
    exact this

/-- many of one kind -/
theorem comp_many (F : Fns) (P : Val → Prop) (K k : Kd) (n : Nat) (hl : n ≤ 100) (h : Heap) (r : Int) (h27 : F 27 [.str (nm K)] h = .ok (.str (nm k)) h) (hF : ∀ i, ∃ y, F 28 [.str (nm k), .int i] h = .ok y h ∧ P y) (a d3 d4 d6 d7 : Option Val) :
    ∃ ys, evE T F (.comp false (.call 28 [(.call 27 [(.var 0)]), (.op .add (.op .fdiv (.bf .int false [(.var 2)]) (.op .add (.cst (.int 2)) (.var 7))) (.var 7))]) (.name 7) 2 [(.var 5)] [] [7]) [some (.str (nm K)), a, some (.int r), d3, d4, some (.int (n : Int)), d6, d7] h = .ok (.lst ys) h ∧ ys.length = n ∧ ∀ y ∈ ys, P y := by
  have lin : line = 16777216 := rfl
  have key : ∀ x ∈ upto 0 n, ∃ y, cTurn T F (.call 28 [(.call 27 [(.var 0)]), (.op .add (.op .fdiv (.bf .int false [(.var 2)]) (.op .add (.cst (.int 2)) (.var 7))) (.var 7))]) (.name 7) [] [7] [some (.str (nm K)), a, some (.int r), d3, d4, some (.int (n : Int)), d6, d7] x h = .ok [y] h ∧ P y := fun x hx => by
    obtain ⟨j, hj, rfl⟩ := upto_mem n 0 x hx
    have z : (0 : Int) + (j : Int) = (j : Int) := by omega
    rw [z]
    obtain ⟨y, e, p⟩ := hF (r.fdiv (2 + (j : Int)) + j)
    refine ⟨y, ?_, p⟩
    have f1 : opV h .fdiv (.int r) (.int (2 + (j : Int))) = some (.int (r.fdiv (2 + (j : Int)))) := v_fdiv h ⟨by omega, by
      have : bound30 = 2 ^ 30 := rfl
      omega⟩
    have ew : wipeS [some (.str (nm K)), a, some (.int r), d3, d4, some (.int (n : Int)), d6, d7] [7] = [some (.str (nm K)), a, some (.int r), d3, d4, some (.int (n : Int)), d6, none] := rfl
    unfold cTurn
    rw [ew]
    simp only [evE_var, evE_cst, evE_tup, evE_lst, evE_op, evE_neg, evE_not, evE_and, evE_or, evE_ite, evE_sub, evE_slice, evE_call, evE_callK, evE_bm, evE_bf, evE_isi, evEs_nil, evEs_cons, exS_asg, exS_augN, exS_expr, exS_ret, exS_ife, exB_nil', exB_cons', bind_ok', stm_ok', next_nx', next_rt', bind_exc', stm_exc', next_exc', ifO_t, ifO_f, opt_some, varO_some, laidV_int, laidV_bl, laidV_str, laidV_tup, laidV_lst, retO_rt, retO_nx, v_add, v_sub, v_lt, v_le, v_gt, v_ge, v_eqi, v_nei, t_bl, t_int, ofOpt_some', List.getElem?_cons_zero, List.getElem?_cons_succ, List.set_cons_zero, List.set_cons_succ, List.map_cons, List.map_nil, List.cons_append, List.nil_append, List.replicate_succ, List.replicate_zero, bindTg, setSlots, List.length_cons, List.length_nil, Nat.reduceAdd, Nat.reduceSub, Nat.reduceLT, ↓reduceIte, if_true, bf_int, bf_lent, bf_lenl, bf_lena, sub_t, sub_l, sub_a, f1, h27, e]
  obtain ⟨ys, e, l, q⟩ := compL_all (G := fun h' => stays h h' [.int (n : Int)]) (P := P) (h := h) stays_int key
  rw [upto_len] at l
  refine ⟨ys, ?_, l, q⟩
  rw [evE_comp' _ _ _ _ (by decide)]
  simp only [evE_var, evE_cst, evE_tup, evE_lst, evE_op, evE_neg, evE_not, evE_and, evE_or, evE_ite, evE_sub, evE_slice, evE_call, evE_callK, evE_bm, evE_bf, evE_isi, evEs_nil, evEs_cons, exS_asg, exS_augN, exS_expr, exS_ret, exS_ife, exB_nil', exB_cons', bind_ok', stm_ok', next_nx', next_rt', bind_exc', stm_exc', next_exc', ifO_t, ifO_f, opt_some, varO_some, laidV_int, laidV_bl, laidV_str, laidV_tup, laidV_lst, retO_rt, retO_nx, v_add, v_sub, v_lt, v_le, v_gt, v_ge, v_eqi, v_nei, t_bl, t_int, ofOpt_some', List.getElem?_cons_zero, List.getElem?_cons_succ, List.set_cons_zero, List.set_cons_succ, List.map_cons, List.map_nil, List.cons_append, List.nil_append, List.replicate_succ, List.replicate_zero, bindTg, setSlots, List.length_cons, List.length_nil, Nat.reduceAdd, Nat.reduceSub, Nat.reduceLT, ↓reduceIte, if_true, bf_int, bf_lent, bf_lenl, bf_lena, sub_t, sub_l, sub_a, rng_ok (show n ≤ 16777216 by omega)]
  rw [e]
  simp only [compO_ok]
  exact newL_v (by omega)
theorem mk_many (d : Nat) (K k : Kd) (m : Nat) (hM : isM K = true) (hm : mostV K = some (m : Int)) (hr : rowV K = some k) (h2 : 2 ≤ m) (h100 : m ≤ 100) (i : Int) (h : Heap) (g : Kd → Val → Bool) (hF : ∀ i, ∃ y, callF T (d + 1) 28 [.str (nm k), .int i] h = .ok y h ∧ g k y = true) : ∃ v, callF T (d + 2) 28 [.str (nm K), .int i] h = .ok v h ∧ okP g (.many m k) v = true := by
  obtain ⟨l3, l4, l7, l5, l1, l0⟩ := ln
  have f7 : opV h .fdiv (.int i) (.int 7) = some (.int (i.fdiv 7)) := v_fdiv h (by decide)
  have m7 : opV h .mod (.int i) (.int 7) = some (.int (i.fmod 7)) := v_mod h (by decide)
  have em := mostT B d K m hm h
  have er := rowOfT B d K k hr h
  have qb := q_b h K
  have eb : isB K = false := by cases K <;> first | rfl | cases hM
  have qn := q_n h K
  have en : isN K = false := by cases K <;> first | rfl | cases hM
  have qf := q_f h K
  have ef : isF K = false := by cases K <;> first | rfl | cases hM
  have qm := q_m h K
  obtain ⟨x, hx, ex⟩ := at_mod [Val.int 0, .int 1, .int 2, .int (m : Int), .int 1, .int 0, .int 2] (n := 7) (by decide) rfl i
  obtain ⟨c, rfl, hc⟩ : ∃ c : Nat, x = .int (c : Int) ∧ c ≤ m := by
    simp only [List.mem_cons, List.not_mem_nil, or_false] at hx
    rcases hx with rfl | rfl | rfl | rfl | rfl | rfl | rfl
    · exact ⟨0, rfl, by omega⟩
    · exact ⟨1, rfl, by omega⟩
    · exact ⟨2, rfl, by omega⟩
    · exact ⟨m, rfl, by omega⟩
    · exact ⟨1, rfl, by omega⟩
    · exact ⟨0, rfl, by omega⟩
    · exact ⟨2, rfl, by omega⟩
  obtain ⟨ys, ec, yl, yp⟩ := comp_many B (callF T (d + 1)) (fun y => g k y = true) K k c (by omega) h (i.fdiv 7) er hF (some (.int i)) none none none none
  rw [callF_n T (d + 1) 28 _ h _ B.f28 (B.fz 28 (by omega)) rfl]
  refine ⟨.tup ys, ?_, ?_⟩
  · have n7 : newL false [Val.int 0, .int 1, .int 2, .int (m : Int), .int 1, .int 0, .int 2] h = .ok (.lst _) h := newF l7
    simp only [b28, evE_var, evE_cst, evE_tup, evE_lst, evE_op, evE_neg, evE_not, evE_and, evE_or, evE_ite, evE_sub, evE_slice, evE_call, evE_callK, evE_bm, evE_bf, evE_isi, evEs_nil, evEs_cons, exS_asg, exS_augN, exS_expr, exS_ret, exS_ife, exB_nil', exB_cons', bind_ok', stm_ok', next_nx', next_rt', bind_exc', stm_exc', next_exc', ifO_t, ifO_f, opt_some, varO_some, laidV_int, laidV_bl, laidV_str, laidV_tup, laidV_lst, retO_rt, retO_nx, v_add, v_sub, v_lt, v_le, v_gt, v_ge, v_eqi, v_nei, t_bl, t_int, ofOpt_some', List.getElem?_cons_zero, List.getElem?_cons_succ, List.set_cons_zero, List.set_cons_succ, List.map_cons, List.map_nil, List.cons_append, List.nil_append, List.replicate_succ, List.replicate_zero, bindTg, setSlots, List.length_cons, List.length_nil, Nat.reduceAdd, Nat.reduceSub, Nat.reduceLT, ↓reduceIte, if_true, bf_int, bf_lent, bf_lenl, bf_lena, sub_t, sub_l, sub_a, f7, qb, eb, l3, qn, en, qf, ef, qm, hM, em, m7, n7, ex, ec, bf_tupl]
  · unfold okP
    simp only [Bool.and_eq_true, decide_eq_true_eq]
    exact ⟨by omega, List.all_eq_true.mpr yp⟩
theorem mk_row (d : Nat) (K : Kd) (ks : List Kd) (hp : parts K = .row ks) (hl : ks.length ≤ 100) (i : Int) (h : Heap) (g : Kd → Val → Bool) (hF : ∀ k ∈ ks, ∀ i, ∃ y, callF T (d + 1) 28 [.str (nm k), .int i] h = .ok y h ∧ g k y = true) : ∃ v, callF T (d + 2) 28 [.str (nm K), .int i] h = .ok v h ∧ okP g (.row ks) v = true := by
  obtain ⟨l3, l4, l7, l5, l1, l0⟩ := ln
  have f7 : opV h .fdiv (.int i) (.int 7) = some (.int (i.fdiv 7)) := v_fdiv h (by decide)
  have ei := items B d K h
  have e0 : itemsV K = .lst (ks.map fun k => .str (nm k)) := by unfold itemsV; rw [hp]
  rw [e0] at ei
  have qb := q_b h K
  have eb : isB K = false := by cases K <;> first | rfl | cases hp
  have qn := q_n h K
  have en : isN K = false := by cases K <;> first | rfl | cases hp
  have qf := q_f h K
  have ef : isF K = false := by cases K <;> first | rfl | cases hp
  have qm := q_m h K
  have eM : isM K = false := by cases K <;> first | rfl | cases hp
  have nn := isnot_x h (.lst (ks.map fun k => .str (nm k))) (by simp)
  obtain ⟨ys, ec, yp⟩ := comp_row B (callF T (d + 1)) g ks hl h (i.fdiv 7) hF (some (.str (nm K))) (some (.int i)) none none none none
  rw [callF_n T (d + 1) 28 _ h _ B.f28 (B.fz 28 (by omega)) rfl]
  refine ⟨.tup ys, ?_, yp⟩
  simp only [b28, evE_var, evE_cst, evE_tup, evE_lst, evE_op, evE_neg, evE_not, evE_and, evE_or, evE_ite, evE_sub, evE_slice, evE_call, evE_callK, evE_bm, evE_bf, evE_isi, evEs_nil, evEs_cons, exS_asg, exS_augN, exS_expr, exS_ret, exS_ife, exB_nil', exB_cons', bind_ok', stm_ok', next_nx', next_rt', bind_exc', stm_exc', next_exc', ifO_t, ifO_f, opt_some, varO_some, laidV_int, laidV_bl, laidV_str, laidV_tup, laidV_lst, retO_rt, retO_nx, v_add, v_sub, v_lt, v_le, v_gt, v_ge, v_eqi, v_nei, t_bl, t_int, ofOpt_some', List.getElem?_cons_zero, List.getElem?_cons_succ, List.set_cons_zero, List.set_cons_succ, List.map_cons, List.map_nil, List.cons_append, List.nil_append, List.replicate_succ, List.replicate_zero, bindTg, setSlots, List.length_cons, List.length_nil, Nat.reduceAdd, Nat.reduceSub, Nat.reduceLT, ↓reduceIte, if_true, bf_int, bf_lent, bf_lenl, bf_lena, sub_t, sub_l, sub_a, f7, qb, eb, l3, qn, en, qf, ef, qm, eM, ei, nn, ec, bf_tupl]
theorem mk_named (d : Nat) (K : Kd) (rs : List (List Nat × List Kd)) (hp : parts K = .named rs) (h0 : rs ≠ []) (hu : ∀ p ∈ rs, rs.lookup p.1 = some p.2) (hl : ∀ p ∈ rs, p.2.length ≤ 100) (i : Int) (h : Heap) (g : Kd → Val → Bool) (hF : ∀ p ∈ rs, ∀ k ∈ p.2, ∀ i, ∃ y, callF T (d + 1) 28 [.str (nm k), .int i] h = .ok y h ∧ g k y = true) : ∃ v, callF T (d + 2) 28 [.str (nm K), .int i] h = .ok v h ∧ okP g (.named rs) v = true := by
  obtain ⟨l3, l4, l7, l5, l1, l0⟩ := ln
  have lin : line = 16777216 := rfl
  have f7 : opV h .fdiv (.int i) (.int 7) = some (.int (i.fdiv 7)) := v_fdiv h (by decide)
  have ei := items B d K h
  have e0 : itemsV K = .non := by unfold itemsV; rw [hp]
  rw [e0] at ei
  have er := rowsT B d K h
  have e0 : rowsV K = .lst (rs.map fun p => .tup [.str p.1, .lst (p.2.map fun k => .str (nm k))]) := by unfold rowsV; rw [hp]
  rw [e0] at er
  have qb := q_b h K
  have eb : isB K = false := by cases K <;> first | rfl | cases hp
  have qn := q_n h K
  have en : isN K = false := by cases K <;> first | rfl | cases hp
  have qf := q_f h K
  have ef : isF K = false := by cases K <;> first | rfl | cases hp
  have qm := q_m h K
  have eM : isM K = false := by cases K <;> first | rfl | cases hp
  have nn := isnot_nn h
  have rl : 0 < rs.length := List.length_pos_iff.mpr h0
  have ml : opV h .mod (.int i) (.int ((rs.map fun p => Val.tup [.str p.1, .lst (p.2.map fun k => .str (nm k))]).length : Int)) = some (.int (i.fmod (rs.length : Int))) := by rw [List.length_map]; exact v_mod h (by omega)
  obtain ⟨x, hx, ex⟩ := at_mod (rs.map fun p => Val.tup [.str p.1, .lst (p.2.map fun k => .str (nm k))]) (n := (rs.length : Int)) (by omega) (by rw [List.length_map]) i
  obtain ⟨p, hm, rfl⟩ := List.mem_map.mp hx
  obtain ⟨ys, ec, yp⟩ := comp_row B (callF T (d + 1)) g p.2 (hl p hm) h (i.fdiv 7) (hF p hm) (some (.str (nm K))) (some (.int i)) (some (.lst (rs.map fun p => .tup [.str p.1, .lst (p.2.map fun k => .str (nm k))]))) none (some (.str p.1)) none
  have yl := okR_len _ _ yp
  have hlp := hl p hm
  have av : opV h .add (.tup [.str p.1]) (.tup ys) = some (.tup ([.str p.1] ++ ys)) := by
    show (if _ then _ else _) = _
    rw [if_pos (by simp only [List.length_cons, List.length_nil]; omega)]
  rw [callF_n T (d + 1) 28 _ h _ B.f28 (B.fz 28 (by omega)) rfl]
  refine ⟨.tup ([.str p.1] ++ ys), ?_, ?_⟩
  · simp only [b28, evE_var, evE_cst, evE_tup, evE_lst, evE_op, evE_neg, evE_not, evE_and, evE_or, evE_ite, evE_sub, evE_slice, evE_call, evE_callK, evE_bm, evE_bf, evE_isi, evEs_nil, evEs_cons, exS_asg, exS_augN, exS_expr, exS_ret, exS_ife, exB_nil', exB_cons', bind_ok', stm_ok', next_nx', next_rt', bind_exc', stm_exc', next_exc', ifO_t, ifO_f, opt_some, varO_some, laidV_int, laidV_bl, laidV_str, laidV_tup, laidV_lst, retO_rt, retO_nx, v_add, v_sub, v_lt, v_le, v_gt, v_ge, v_eqi, v_nei, t_bl, t_int, ofOpt_some', List.getElem?_cons_zero, List.getElem?_cons_succ, List.set_cons_zero, List.set_cons_succ, List.map_cons, List.map_nil, List.cons_append, List.nil_append, List.replicate_succ, List.replicate_zero, bindTg, setSlots, List.length_cons, List.length_nil, Nat.reduceAdd, Nat.reduceSub, Nat.reduceLT, ↓reduceIte, if_true, bf_int, bf_lent, bf_lenl, bf_lena, sub_t, sub_l, sub_a, f7, qb, eb, l3, qn, en, qf, ef, qm, eM, ei, nn, er, ml, ex, ec, bf_tupl, l1, av]
  · unfold okP
    simp only [List.cons_append, List.nil_append]
    rw [hu p hm]
    exact yp
def rowsU (rs : List (List Nat × List Kd)) : Bool := !rs.isEmpty && rs.all fun p => decide (rs.lookup p.1 = some p.2) && decide (p.2.length ≤ 100)
omit B in
theorem rows_u (K : Kd) (rs : List (List Nat × List Kd)) (hp : parts K = .named rs) : rowsU rs = true := by cases K <;> cases hp <;> decide
/-- a value of each kind is made -/
theorem make : ∀ (z : Nat) (K : Kd), rank K < z → ∀ d, z + 1 ≤ d → ∀ i h, ∃ v, callF T d 28 [.str (nm K), .int i] h = .ok v h ∧ ok z K v = true := by
  intro z
  induction z with
  | zero => intro K hK; omega
  | succ z ih =>
    intro K hK d hd i h
    obtain ⟨m, rfl⟩ : ∃ m, d = m + 2 := ⟨d - 2, by omega⟩
    have low : ∀ k, rank k < rank K → ∀ i, ∃ y, callF T (m + 1) 28 [.str (nm k), .int i] h = .ok y h ∧ ok z k y = true := fun k hk i => ih k (by omega) (m + 1) (by omega) i h
    have bl := parts_below K
    show ∃ v, _ ∧ okP (ok z) (parts K) v = true
    cases ep : parts K with
    | row ks =>
      rw [ep] at bl
      exact mk_row B m K ks ep (by cases K <;> cases ep <;> decide) i h (ok z) fun k hk i => low k (by simpa using List.all_eq_true.mp bl k hk) i
    | named rs =>
      rw [ep] at bl
      have u := rows_u K rs ep
      unfold rowsU at u
      simp only [Bool.and_eq_true, Bool.not_eq_true', List.all_eq_true, decide_eq_true_eq] at u
      exact mk_named B m K rs ep (fun q => by rw [q] at u; cases u.1) (fun p hp => (u.2 p hp).1) (fun p hp => (u.2 p hp).2) i h (ok z) fun p hp k hk i => low k (by simpa using List.all_eq_true.mp (List.all_eq_true.mp bl p hp) k hk) i
    | many n k =>
      rw [ep] at bl
      have hk : rank k < rank K := by simpa [below] using bl
      cases K <;> cases ep
      · exact mk_many B m .hands .n 4 rfl rfl rfl (by omega) (by omega) i h (ok z) fun i => low .n hk i
      · exact mk_many B m .locks .lock 30 rfl rfl rfl (by omega) (by omega) i h (ok z) fun i => low .lock hk i
      · exact mk_many B m .step .move 16 rfl rfl rfl (by omega) (by omega) i h (ok z) fun i => low .move hk i
    | num lo hi =>
      cases K <;> cases ep
      · exact mk_num B m .n 4294967295 rfl rfl (by omega) i h (ok z)
      · exact mk_num B m .a 1000000000000000 rfl rfl (by omega) i h (ok z)
      · exact mk_num B m .h 1000000000000 rfl rfl (by omega) i h (ok z)
      · exact mk_free B m i h (ok z)
    | flag =>
      cases K <;> cases ep
      exact mk_flag B (m + 1) i h (ok z)
end
end K72

/-! K72: values are spoilt -/
namespace K72
open MP
theorem compL_filter {G : Heap → Prop} {step : Val → Heap → Out (List Val)} {q : Val → Bool} {h : Heap} (hG : G h) : ∀ {items : List Val}, (∀ x ∈ items, step x h = .ok (if q x = true then [x] else []) h) → compL G step items h = .ok (items.filter q) h
  | [], _ => rfl
  | x :: r, hs => by
    unfold compL
    rw [hs x List.mem_cons_self]
    dsimp only
    rw [if_pos hG, compL_filter hG fun y hy => hs y (List.mem_cons_of_mem _ hy)]
    by_cases e : q x = true
    · simp [e]
    · simp [e]
theorem cut_lo {α : Type} (xs : List α) (k : Nat) (hk : k ≤ xs.length) : cut xs none (some (k : Int)) = xs.take k := by
  have c1 : clip xs.length xs.length (some (k : Int)) = k := by
    unfold clip
    simp only
    rw [if_neg (by omega), Int.toNat_natCast, Nat.min_eq_left hk]
  have c0 : clip xs.length 0 none = 0 := rfl
  unfold cut
  rw [c1, c0]
  simp
theorem cut_hi {α : Type} (xs : List α) (k : Nat) (hk : k ≤ xs.length) : cut xs (some (k : Int)) none = xs.drop k := by
  have c1 : clip xs.length 0 (some (k : Int)) = k := by
    unfold clip
    simp only
    rw [if_neg (by omega), Int.toNat_natCast, Nat.min_eq_left hk]
  have c0 : clip xs.length xs.length none = xs.length := rfl
  unfold cut
  rw [c1, c0]
  exact List.take_of_length_le (by rw [List.length_drop]; omega)
theorem okR_repl {g : Kd → Val → Bool} {w : Val} : ∀ (ks : List Kd) (xs : List Val) (k : Nat) (kk : Kd), k < xs.length → ks[k]? = some kk → g kk w = false → okR g ks (xs.take k ++ [w] ++ xs.drop (k + 1)) = false
  | [], _, _, _, _, e, _ => by cases e
  | _ :: _, [], _, _, h, _, _ => by cases h
  | k0 :: ks, x :: xs, 0, kk, _, e, q => by
    simp at e
    subst e
    show okR g (k0 :: ks) (w :: xs) = false
    unfold okR
    rw [q]
    rfl
  | k0 :: ks, x :: xs, k + 1, kk, h, e, q => by
    have := okR_repl ks xs k kk (by simpa using h) (by simpa using e) q
    show okR g (k0 :: ks) (x :: (xs.take k ++ [w] ++ xs.drop (k + 1))) = false
    unfold okR
    rw [this, Bool.and_false]
theorem okR_neq {g : Kd → Val → Bool} (ks : List Kd) (xs : List Val) (h : xs.length ≠ ks.length) : okR g ks xs = false := by
  cases e : okR g ks xs with
  | false => rfl
  | true => exact absurd (okR_len ks xs e) h
theorem okR_get {g : Kd → Val → Bool} : ∀ (ks : List Kd) (xs : List Val) (k : Nat) (x : Val), okR g ks xs = true → xs[k]? = some x → ∃ kk, ks[k]? = some kk ∧ g kk x = true
  | [], [], _, _, _, e => by cases e
  | [], _ :: _, _, _, e, _ => by cases e
  | _ :: _, [], _, _, e, _ => by cases e
  | k0 :: ks, x0 :: xs, k, x, e, q => by
    unfold okR at e
    rw [Bool.and_eq_true] at e
    cases k with
    | zero => simp at q; subst q; exact ⟨k0, rfl, e.1⟩
    | succ k =>
      obtain ⟨kk, a, b⟩ := okR_get ks xs k x e.2 (by simpa using q)
      exact ⟨kk, by simpa using a, b⟩
theorem pl_repl {xs : List Val} {w : Val} (k : Nat) (hx : ∀ x ∈ xs, Pl x) (hw : Pl w) : ∀ x ∈ xs.take k ++ [w] ++ xs.drop (k + 1), Pl x := fun x h => by
  simp only [List.mem_append, List.mem_singleton] at h
  rcases h with (h | rfl) | h
  · exact hx x (List.mem_of_mem_take h)
  · exact hw
  · exact hx x (List.mem_of_mem_drop h)
theorem pl_tup {xs : List Val} (h : Pl (.tup xs)) : ∀ x ∈ xs, Pl x := by cases h; assumption
theorem q_name (h : Heap) (K : Kd) : opV h .eq (.str (nm K)) (.str [110, 97, 109, 101]) = some (.bl false) := by cases K <;> exact Eq.trans rfl rfl
theorem q_name2 (h : Heap) : opV h .eq (.str [110, 97, 109, 101]) (.str [110, 97, 109, 101]) = some (.bl true) := Eq.trans rfl rfl
theorem pl_few {x : Val} {xs : List Val} (h : x ∈ xs) (hs : ∀ y ∈ xs, Pl y) : Pl x := hs x h
theorem v_addt (h : Heap) {xs ys : List Val} (q : xs.length + ys.length ≤ line) : opV h .add (.tup xs) (.tup ys) = some (.tup (xs ++ ys)) := by simp [opV, q]
theorem v_addl (h : Heap) {xs ys : List Val} (q : xs.length + ys.length ≤ line) : opV h .add (.lst xs) (.lst ys) = some (.lst (xs ++ ys)) := by simp [opV, q]
theorem isnon (h : Heap) (xs : List Val) : opV h .is (.lst xs) .non = some (.bl false) := Eq.trans rfl rfl
section
variable {T : Tb} (B : Tab T)
include B
omit B in
theorem lit4 : ∀ x ∈ [Val.non, .int 3, .bl true, .str [111, 112, 101, 110]], Pl x ∧ ∀ (g : Kd → Val → Bool) (p : Pt), (∀ lo hi, p ≠ .num lo hi) → p ≠ .flag → okP g p x = false := by
  intro x hx
  simp only [List.mem_cons, List.not_mem_nil, or_false] at hx
  rcases hx with rfl | rfl | rfl | rfl
  · exact ⟨.non, fun g p a b => by cases p <;> rfl⟩
  · exact ⟨.int _, fun g p a b => by cases p <;> first | rfl | exact absurd rfl (a _ _)⟩
  · exact ⟨.bl _, fun g p a b => by cases p <;> first | rfl | exact absurd rfl b⟩
  · exact ⟨.str _, fun g p a b => by cases p <;> rfl⟩
theorem sp_flag (d : Nat) (v : Val) (i : Int) (h : Heap) (g : Kd → Val → Bool) : ∃ w, callF T (d + 1) 30 [.str (nm .b), v, .int i] h = .ok w h ∧ Pl w ∧ okP g .flag w = false := by
  obtain ⟨l3, l4, l7, l5, l1, l0⟩ := ln
  have f5 : opV h .fdiv (.int i) (.int 5) = some (.int (i.fdiv 5)) := v_fdiv h (by decide)
  have m5 : opV h .mod (.int i) (.int 5) = some (.int (i.fmod 5)) := v_mod h (by decide)
  have qb := q_b h .b
  have eb : isB .b = true := rfl
  obtain ⟨x, hx, ex⟩ := at_mod [Val.int 0, .int 1, .non, .str [116], .tup []] (n := 5) (by decide) rfl i
  have n5 : newL false [Val.int 0, .int 1, .non, .str [116], .tup []] h = .ok (.lst _) h := newF l5
  rw [callF_n T d 30 _ h _ B.f30 (B.fz 30 (by omega)) rfl]
  refine ⟨x, ?_, ?_⟩
  · simp only [b30, evE_var, evE_cst, evE_tup, evE_lst, evE_op, evE_neg, evE_not, evE_and, evE_or, evE_ite, evE_sub, evE_slice, evE_call, evE_callK, evE_bm, evE_bf, evE_isi, evEs_nil, evEs_cons, exS_asg, exS_augN, exS_expr, exS_ret, exS_ife, exB_nil', exB_cons', bind_ok', stm_ok', next_nx', next_rt', bind_exc', stm_exc', next_exc', ifO_t, ifO_f, opt_some, varO_some, laidV_int, laidV_bl, laidV_str, laidV_tup, laidV_lst, retO_rt, retO_nx, v_add, v_sub, v_lt, v_le, v_gt, v_ge, v_eqi, v_nei, t_bl, t_int, ofOpt_some', List.getElem?_cons_zero, List.getElem?_cons_succ, List.set_cons_zero, List.set_cons_succ, List.map_cons, List.map_nil, List.cons_append, List.nil_append, List.replicate_succ, List.replicate_zero, bindTg, setSlots, List.length_cons, List.length_nil, Nat.reduceAdd, Nat.reduceSub, Nat.reduceLT, ↓reduceIte, if_true, bf_int, bf_lent, bf_lenl, bf_lena, sub_t, sub_l, sub_a, f5, qb, eb, l0, n5, m5, ex]
  · simp only [List.mem_cons, List.not_mem_nil, or_false] at hx
    rcases hx with rfl | rfl | rfl | rfl | rfl
    · exact ⟨.int _, rfl⟩
    · exact ⟨.int _, rfl⟩
    · exact ⟨.non, rfl⟩
    · exact ⟨.str _, rfl⟩
    · exact ⟨.tup _ (fun x hx => by cases hx), rfl⟩
theorem sp_atom (d : Nat) (K : Kd) (m lo : Int) (hm : mostV K = some m) (hlo : lo = if isF K = true then 0 - m else 0) (i : Int) (h : Heap) (g : Kd → Val → Bool) : ∃ w, callF T (d + 2) 29 [.str (nm K), .int i] h = .ok w h ∧ Pl w ∧ okP g (.num lo m) w = false := by
  obtain ⟨l3, l4, l7, l5, l1, l0⟩ := ln
  have m7 : opV h .mod (.int i) (.int 7) = some (.int (i.fmod 7)) := v_mod h (by decide)
  have em := mostT B d K m hm h
  have qf := q_f h K
  obtain ⟨x, hx, ex⟩ := at_mod [Val.int (lo - 1), .int (m + 1), .bl true, .non, .str [112, 97, 121], .tup [], .tup [.int 1]] (n := 7) (by decide) rfl i
  have n7 : newL false [Val.int (lo - 1), .int (m + 1), .bl true, .non, .str [112, 97, 121], .tup [], .tup [.int 1]] h = .ok (.lst _) h := newF l7
  rw [callF_n T (d + 1) 29 _ h _ B.f29 (B.fz 29 (by omega)) rfl]
  refine ⟨x, ?_, ?_⟩
  · cases eF : isF K with
    | true =>
      rw [eF] at hlo qf
      simp only [if_true] at hlo
      subst hlo
      simp only [b29, evE_var, evE_cst, evE_tup, evE_lst, evE_op, evE_neg, evE_not, evE_and, evE_or, evE_ite, evE_sub, evE_slice, evE_call, evE_callK, evE_bm, evE_bf, evE_isi, evEs_nil, evEs_cons, exS_asg, exS_augN, exS_expr, exS_ret, exS_ife, exB_nil', exB_cons', bind_ok', stm_ok', next_nx', next_rt', bind_exc', stm_exc', next_exc', ifO_t, ifO_f, opt_some, varO_some, laidV_int, laidV_bl, laidV_str, laidV_tup, laidV_lst, retO_rt, retO_nx, v_add, v_sub, v_lt, v_le, v_gt, v_ge, v_eqi, v_nei, t_bl, t_int, ofOpt_some', List.getElem?_cons_zero, List.getElem?_cons_succ, List.set_cons_zero, List.set_cons_succ, List.map_cons, List.map_nil, List.cons_append, List.nil_append, List.replicate_succ, List.replicate_zero, bindTg, setSlots, List.length_cons, List.length_nil, Nat.reduceAdd, Nat.reduceSub, Nat.reduceLT, ↓reduceIte, if_true, bf_int, bf_lent, bf_lenl, bf_lena, sub_t, sub_l, sub_a, em, qf, l0, l1, n7, m7, ex]
    | false =>
      rw [eF] at hlo qf
      simp only [Bool.false_eq_true, if_false] at hlo
      subst hlo
      simp only [b29, evE_var, evE_cst, evE_tup, evE_lst, evE_op, evE_neg, evE_not, evE_and, evE_or, evE_ite, evE_sub, evE_slice, evE_call, evE_callK, evE_bm, evE_bf, evE_isi, evEs_nil, evEs_cons, exS_asg, exS_augN, exS_expr, exS_ret, exS_ife, exB_nil', exB_cons', bind_ok', stm_ok', next_nx', next_rt', bind_exc', stm_exc', next_exc', ifO_t, ifO_f, opt_some, varO_some, laidV_int, laidV_bl, laidV_str, laidV_tup, laidV_lst, retO_rt, retO_nx, v_add, v_sub, v_lt, v_le, v_gt, v_ge, v_eqi, v_nei, t_bl, t_int, ofOpt_some', List.getElem?_cons_zero, List.getElem?_cons_succ, List.set_cons_zero, List.set_cons_succ, List.map_cons, List.map_nil, List.cons_append, List.nil_append, List.replicate_succ, List.replicate_zero, bindTg, setSlots, List.length_cons, List.length_nil, Nat.reduceAdd, Nat.reduceSub, Nat.reduceLT, ↓reduceIte, if_true, bf_int, bf_lent, bf_lenl, bf_lena, sub_t, sub_l, sub_a, em, qf, l0, l1, n7, m7, ex]
  · simp only [List.mem_cons, List.not_mem_nil, or_false] at hx
    rcases hx with rfl | rfl | rfl | rfl | rfl | rfl | rfl
    · refine ⟨.int _, ?_⟩
      unfold okP
      have : decide (lo ≤ lo - 1) = false := decide_eq_false (by omega)
      simp only [this, Bool.false_and]
    · refine ⟨.int _, ?_⟩
      unfold okP
      have : decide (m + 1 ≤ m) = false := decide_eq_false (by omega)
      simp only [this, Bool.and_false]
    · exact ⟨.bl _, rfl⟩
    · exact ⟨.non, rfl⟩
    · exact ⟨.str _, rfl⟩
    · exact ⟨.tup _ (fun x hx => by cases hx), rfl⟩
    · exact ⟨.tup _ (fun x hx => by cases List.mem_singleton.mp hx; exact .int _), rfl⟩
theorem sp_num (d : Nat) (K : Kd) (m lo : Int) (hN : (isN K || isF K) = true) (hm : mostV K = some m) (hlo : lo = if isF K = true then 0 - m else 0) (v : Val) (i : Int) (h : Heap) (g : Kd → Val → Bool) : ∃ w, callF T (d + 3) 30 [.str (nm K), v, .int i] h = .ok w h ∧ Pl w ∧ okP g (.num lo m) w = false := by
  obtain ⟨l3, l4, l7, l5, l1, l0⟩ := ln
  obtain ⟨w, e, p, q⟩ := sp_atom B d K m lo hm hlo i h g
  have f5 : opV h .fdiv (.int i) (.int 5) = some (.int (i.fdiv 5)) := v_fdiv h (by decide)
  have qb := q_b h K
  have eb : isB K = false := by cases K <;> first | rfl | cases hN
  have qn := q_nf h K
  rw [hN] at qn
  rw [callF_n T (d + 2) 30 _ h _ B.f30 (B.fz 30 (by omega)) rfl]
  refine ⟨w, ?_, p, q⟩
  simp only [b30, evE_var, evE_cst, evE_tup, evE_lst, evE_op, evE_neg, evE_not, evE_and, evE_or, evE_ite, evE_sub, evE_slice, evE_call, evE_callK, evE_bm, evE_bf, evE_isi, evEs_nil, evEs_cons, exS_asg, exS_augN, exS_expr, exS_ret, exS_ife, exB_nil', exB_cons', bind_ok', stm_ok', next_nx', next_rt', bind_exc', stm_exc', next_exc', ifO_t, ifO_f, opt_some, varO_some, laidV_int, laidV_bl, laidV_str, laidV_tup, laidV_lst, retO_rt, retO_nx, v_add, v_sub, v_lt, v_le, v_gt, v_ge, v_eqi, v_nei, t_bl, t_int, ofOpt_some', List.getElem?_cons_zero, List.getElem?_cons_succ, List.set_cons_zero, List.set_cons_succ, List.map_cons, List.map_nil, List.cons_append, List.nil_append, List.replicate_succ, List.replicate_zero, bindTg, setSlots, List.length_cons, List.length_nil, Nat.reduceAdd, Nat.reduceSub, Nat.reduceLT, ↓reduceIte, if_true, bf_int, bf_lent, bf_lenl, bf_lena, sub_t, sub_l, sub_a, f5, qb, eb, l4, qn, e]
/-- the kinds that are no atoms: what is the same for all -/
structure Big (K : Kd) (h : Heap) : Prop where
  qb : opV h .eq (.str (nm K)) (.str [98]) = some (.bl false)
  qn : opV h .isin (.str (nm K)) (.tup [.str [110], .str [97], .str [104], .str [102]]) = some (.bl false)
  qm : opV h .isin (.str (nm K)) (.tup [.str [104, 97, 110, 100, 115], .str [108, 111, 99, 107, 115], .str [115, 116, 101, 112]]) = some (.bl (isM K))
omit B in
theorem big_of (K : Kd) (h : Heap) (h1 : isB K = false) (h2 : (isN K || isF K) = false) : Big K h := ⟨by rw [q_b, h1], by rw [q_nf, h2], q_m h K⟩
theorem sp_zero (d : Nat) (K : Kd) (b : ∀ h, Big K h) (v : Val) (i : Int) (hi : i.fmod 5 = 0) (h : Heap) : ∃ x ∈ [Val.non, .int 3, .bl true, .str [111, 112, 101, 110]], callF T (d + 1) 30 [.str (nm K), v, .int i] h = .ok x h := by
  obtain ⟨l3, l4, l7, l5, l1, l0⟩ := ln
  have f5 : opV h .fdiv (.int i) (.int 5) = some (.int (i.fdiv 5)) := v_fdiv h (by decide)
  have m5 : opV h .mod (.int i) (.int 5) = some (.int 0) := (v_mod h (by decide)).trans (by rw [hi])
  have m4 : opV h .mod (.int (i.fdiv 5)) (.int 4) = some (.int ((i.fdiv 5).fmod 4)) := v_mod h (by decide)
  obtain ⟨x, hx, ex⟩ := at_mod [Val.non, .int 3, .bl true, .str [111, 112, 101, 110]] (n := 4) (by decide) rfl (i.fdiv 5)
  have n4 : newL false [Val.non, .int 3, .bl true, .str [111, 112, 101, 110]] h = .ok (.lst _) h := newF l4
  have d0 : ((0 : Int) == 0) = true := rfl
  rw [callF_n T d 30 _ h _ B.f30 (B.fz 30 (by omega)) rfl]
  refine ⟨x, hx, ?_⟩
  simp only [b30, evE_var, evE_cst, evE_tup, evE_lst, evE_op, evE_neg, evE_not, evE_and, evE_or, evE_ite, evE_sub, evE_slice, evE_call, evE_callK, evE_bm, evE_bf, evE_isi, evEs_nil, evEs_cons, exS_asg, exS_augN, exS_expr, exS_ret, exS_ife, exB_nil', exB_cons', bind_ok', stm_ok', next_nx', next_rt', bind_exc', stm_exc', next_exc', ifO_t, ifO_f, opt_some, varO_some, laidV_int, laidV_bl, laidV_str, laidV_tup, laidV_lst, retO_rt, retO_nx, v_add, v_sub, v_lt, v_le, v_gt, v_ge, v_eqi, v_nei, t_bl, t_int, ofOpt_some', List.getElem?_cons_zero, List.getElem?_cons_succ, List.set_cons_zero, List.set_cons_succ, List.map_cons, List.map_nil, List.cons_append, List.nil_append, List.replicate_succ, List.replicate_zero, bindTg, setSlots, List.length_cons, List.length_nil, Nat.reduceAdd, Nat.reduceSub, Nat.reduceLT, ↓reduceIte, if_true, bf_int, bf_lent, bf_lenl, bf_lena, sub_t, sub_l, sub_a, f5, (b h).qb, l4, (b h).qn, m5, d0, m4, n4, ex]
theorem comp_more (F : Fns) (P : Val → Prop) (K k : Kd) (n : Nat) (hl : n ≤ 100) (h : Heap) (r : Int) (h27 : F 27 [.str (nm K)] h = .ok (.str (nm k)) h) (hF : ∀ i, ∃ y, F 28 [.str (nm k), .int i] h = .ok y h ∧ P y) (a b d4 d5 d6 d8 d9 : Option Val) :
    ∃ ys, evE T F (.comp false (.call 28 [(.call 27 [(.var 0)]), (.op .fdiv (.bf .int false [(.var 3)]) (.op .add (.cst (.int 2)) (.var 9)))]) (.name 9) 2 [(.var 7)] [] [9]) [some (.str (nm K)), a, b, some (.int r), d4, d5, d6, some (.int (n : Int)), d8, d9] h = .ok (.lst ys) h ∧ ys.length = n ∧ ∀ y ∈ ys, P y := by
  have lin : line = 16777216 := rfl
  have key : ∀ x ∈ upto 0 n, ∃ y, cTurn T F (.call 28 [(.call 27 [(.var 0)]), (.op .fdiv (.bf .int false [(.var 3)]) (.op .add (.cst (.int 2)) (.var 9)))]) (.name 9) [] [9] [some (.str (nm K)), a, b, some (.int r), d4, d5, d6, some (.int (n : Int)), d8, d9] x h = .ok [y] h ∧ P y := fun x hx => by
    obtain ⟨j, hj, rfl⟩ := upto_mem n 0 x hx
    have z : (0 : Int) + (j : Int) = (j : Int) := by omega
    rw [z]
    obtain ⟨y, e, p⟩ := hF (r.fdiv (2 + (j : Int)))
    refine ⟨y, ?_, p⟩
    have f1 : opV h .fdiv (.int r) (.int (2 + (j : Int))) = some (.int (r.fdiv (2 + (j : Int)))) := v_fdiv h ⟨by omega, by
      have : bound30 = 2 ^ 30 := rfl
      omega⟩
    have ew : wipeS [some (.str (nm K)), a, b, some (.int r), d4, d5, d6, some (.int (n : Int)), d8, d9] [9] = [some (.str (nm K)), a, b, some (.int r), d4, d5, d6, some (.int (n : Int)), d8, none] := rfl
    unfold cTurn
    rw [ew]
    simp only [evE_var, evE_cst, evE_tup, evE_lst, evE_op, evE_neg, evE_not, evE_and, evE_or, evE_ite, evE_sub, evE_slice, evE_call, evE_callK, evE_bm, evE_bf, evE_isi, evEs_nil, evEs_cons, exS_asg, exS_augN, exS_expr, exS_ret, exS_ife, exB_nil', exB_cons', bind_ok', stm_ok', next_nx', next_rt', bind_exc', stm_exc', next_exc', ifO_t, ifO_f, opt_some, varO_some, laidV_int, laidV_bl, laidV_str, laidV_tup, laidV_lst, retO_rt, retO_nx, v_add, v_sub, v_lt, v_le, v_gt, v_ge, v_eqi, v_nei, t_bl, t_int, ofOpt_some', List.getElem?_cons_zero, List.getElem?_cons_succ, List.set_cons_zero, List.set_cons_succ, List.map_cons, List.map_nil, List.cons_append, List.nil_append, List.replicate_succ, List.replicate_zero, bindTg, setSlots, List.length_cons, List.length_nil, Nat.reduceAdd, Nat.reduceSub, Nat.reduceLT, ↓reduceIte, if_true, bf_int, bf_lent, bf_lenl, bf_lena, sub_t, sub_l, sub_a, f1, h27, e]
  obtain ⟨ys, e, l, q⟩ := compL_all (G := fun h' => stays h h' [.int (n : Int)]) (P := P) (h := h) stays_int key
  rw [upto_len] at l
  refine ⟨ys, ?_, l, q⟩
  rw [evE_comp' _ _ _ _ (by decide)]
  simp only [evE_var, evE_cst, evE_tup, evE_lst, evE_op, evE_neg, evE_not, evE_and, evE_or, evE_ite, evE_sub, evE_slice, evE_call, evE_callK, evE_bm, evE_bf, evE_isi, evEs_nil, evEs_cons, exS_asg, exS_augN, exS_expr, exS_ret, exS_ife, exB_nil', exB_cons', bind_ok', stm_ok', next_nx', next_rt', bind_exc', stm_exc', next_exc', ifO_t, ifO_f, opt_some, varO_some, laidV_int, laidV_bl, laidV_str, laidV_tup, laidV_lst, retO_rt, retO_nx, v_add, v_sub, v_lt, v_le, v_gt, v_ge, v_eqi, v_nei, t_bl, t_int, ofOpt_some', List.getElem?_cons_zero, List.getElem?_cons_succ, List.set_cons_zero, List.set_cons_succ, List.map_cons, List.map_nil, List.cons_append, List.nil_append, List.replicate_succ, List.replicate_zero, bindTg, setSlots, List.length_cons, List.length_nil, Nat.reduceAdd, Nat.reduceSub, Nat.reduceLT, ↓reduceIte, if_true, bf_int, bf_lent, bf_lenl, bf_lena, sub_t, sub_l, sub_a, rng_ok (show n ≤ 16777216 by omega)]
  rw [e]
  simp only [compO_ok]
  exact newL_v (by omega)
theorem sp_many (d : Nat) (K k : Kd) (m : Nat) (b : ∀ h, Big K h) (hM : isM K = true) (hm : mostV K = some (m : Int)) (hr : rowV K = some k) (h100 : m ≤ 90) (xs : List Val) (hl : xs.length ≤ m) (hx : ∀ x ∈ xs, Pl x) (i : Int) (hi : i.fmod 5 ≠ 0) (h : Heap) (g : Kd → Val → Bool)
    (h28 : ∀ i, ∃ y, callF T (d + 1) 28 [.str (nm k), .int i] h = .ok y h ∧ Pl y) (h30 : ∀ x ∈ xs, ∀ i, ∃ w, callF T (d + 1) 30 [.str (nm k), x, .int i] h = .ok w h ∧ Pl w ∧ g k w = false) :
    ∃ w, callF T (d + 2) 30 [.str (nm K), .tup xs, .int i] h = .ok w h ∧ Pl w ∧ okP g (.many m k) w = false := by
  obtain ⟨l3, l4, l7, l5, l1, l0⟩ := ln
  have lin : line = 16777216 := rfl
  have f5 : opV h .fdiv (.int i) (.int 5) = some (.int (i.fdiv 5)) := v_fdiv h (by decide)
  have m5 : opV h .mod (.int i) (.int 5) = some (.int (i.fmod 5)) := v_mod h (by decide)
  have em := mostT B d K m hm h
  have er := rowOfT B d K k hr h
  have qm := (b h).qm
  rw [hM] at qm
  have d0 : (i.fmod 5 == 0) = false := by rw [beq_eq_false_iff_ne]; exact hi
  rw [callF_n T (d + 1) 30 _ h _ B.f30 (B.fz 30 (by omega)) rfl]
  by_cases hc : xs.length = 0 ∨ i.fmod 5 = 1
  · obtain ⟨ys, ec, yl, yp⟩ := comp_more B (callF T (d + 1)) Pl K k (m + 1 - xs.length) (by omega) h (i.fdiv 5) er h28 (some (.tup xs)) (some (.int i)) none none none none none
    have e7 : (m : Int) + 1 - (xs.length : Int) = ((m + 1 - xs.length : Nat) : Int) := by omega
    refine ⟨.tup (xs ++ ys), ?_, .tup _ fun x hm => ?_, ?_⟩
    · have cond : evE T (callF T (d + 1)) (.or (.op .eq (.bf .len false [(.var 1)]) (.cst (.int 0))) (.op .eq (.op .mod (.bf .int false [(.var 2)]) (.cst (.int 5))) (.cst (.int 1)))) [some (.str (nm K)), some (.tup xs), some (.int i), some (.int (i.fdiv 5)), none, none, none, none, none, none] h = .ok (.bl true) h := by
        by_cases h0 : xs.length = 0
        · have z1 : ((xs.length : Int) == 0) = true := by rw [beq_iff_eq]; omega
          simp only [evE_var, evE_cst, evE_tup, evE_lst, evE_op, evE_neg, evE_not, evE_and, evE_or, evE_ite, evE_sub, evE_slice, evE_call, evE_callK, evE_bm, evE_bf, evE_isi, evEs_nil, evEs_cons, exS_asg, exS_augN, exS_expr, exS_ret, exS_ife, exB_nil', exB_cons', bind_ok', stm_ok', next_nx', next_rt', bind_exc', stm_exc', next_exc', ifO_t, ifO_f, opt_some, varO_some, laidV_int, laidV_bl, laidV_str, laidV_tup, laidV_lst, retO_rt, retO_nx, v_add, v_sub, v_lt, v_le, v_gt, v_ge, v_eqi, v_nei, t_bl, t_int, ofOpt_some', List.getElem?_cons_zero, List.getElem?_cons_succ, List.set_cons_zero, List.set_cons_succ, List.map_cons, List.map_nil, List.cons_append, List.nil_append, List.replicate_succ, List.replicate_zero, bindTg, setSlots, List.length_cons, List.length_nil, Nat.reduceAdd, Nat.reduceSub, Nat.reduceLT, ↓reduceIte, if_true, bf_int, bf_lent, bf_lenl, bf_lena, sub_t, sub_l, sub_a, z1]
        · have z1 : ((xs.length : Int) == 0) = false := by rw [beq_eq_false_iff_ne]; omega
          have z2 : (i.fmod 5 == 1) = true := by rw [beq_iff_eq]; omega
          simp only [evE_var, evE_cst, evE_tup, evE_lst, evE_op, evE_neg, evE_not, evE_and, evE_or, evE_ite, evE_sub, evE_slice, evE_call, evE_callK, evE_bm, evE_bf, evE_isi, evEs_nil, evEs_cons, exS_asg, exS_augN, exS_expr, exS_ret, exS_ife, exB_nil', exB_cons', bind_ok', stm_ok', next_nx', next_rt', bind_exc', stm_exc', next_exc', ifO_t, ifO_f, opt_some, varO_some, laidV_int, laidV_bl, laidV_str, laidV_tup, laidV_lst, retO_rt, retO_nx, v_add, v_sub, v_lt, v_le, v_gt, v_ge, v_eqi, v_nei, t_bl, t_int, ofOpt_some', List.getElem?_cons_zero, List.getElem?_cons_succ, List.set_cons_zero, List.set_cons_succ, List.map_cons, List.map_nil, List.cons_append, List.nil_append, List.replicate_succ, List.replicate_zero, bindTg, setSlots, List.length_cons, List.length_nil, Nat.reduceAdd, Nat.reduceSub, Nat.reduceLT, ↓reduceIte, if_true, bf_int, bf_lent, bf_lenl, bf_lena, sub_t, sub_l, sub_a, z1, m5, z2]
      have at1 := v_addt h (xs := xs) (ys := ys) (by omega)
      rw [show b30 = b30 from rfl]
      simp only [b30, evE_var, evE_cst, evE_tup, evE_op, evE_call, evE_bf, evEs_nil, evEs_cons, exS_asg, exS_ret, exS_ife, exB_nil', exB_cons', bind_ok', stm_ok', next_nx', next_rt', ifO_t, ifO_f, opt_some, varO_some, laidV_int, laidV_tup, retO_rt, v_add, v_sub, v_eqi, t_bl, ofOpt_some', List.getElem?_cons_zero, List.getElem?_cons_succ, List.set_cons_zero, List.set_cons_succ, List.map_cons, List.map_nil, List.cons_append, List.nil_append, List.replicate_succ, List.replicate_zero, bindTg, setSlots, List.length_cons, List.length_nil, Nat.reduceAdd, Nat.reduceSub, Nat.reduceLT, ↓reduceIte, if_true, bf_int, bf_lent, f5, (b h).qb, l4, l3, (b h).qn, m5, d0, qm, cond, em, e7, ec, bf_tupl, at1]
    · rcases List.mem_append.mp hm with hm | hm
      · exact hx x hm
      · exact yp x hm
    · unfold okP
      have : decide ((xs ++ ys).length ≤ m) = false := decide_eq_false (by rw [List.length_append]; omega)
      simp only [this, Bool.false_and]
  · have hl0 : 0 < xs.length := by omega
    have h1 : 0 ≤ (i.fdiv 5).fmod (xs.length : Int) := Int.fmod_nonneg_of_pos _ (by omega)
    have h2 : (i.fdiv 5).fmod (xs.length : Int) < (xs.length : Int) := Int.fmod_lt_of_pos _ (by omega)
    obtain ⟨p, hp⟩ : ∃ p : Nat, (i.fdiv 5).fmod (xs.length : Int) = p := ⟨((i.fdiv 5).fmod (xs.length : Int)).toNat, by omega⟩
    have hpl : p < xs.length := by omega
    have ml : opV h .mod (.int (i.fdiv 5)) (.int (xs.length : Int)) = some (.int (p : Int)) := (v_mod h (by omega)).trans (by rw [hp])
    have fl : opV h .fdiv (.int (i.fdiv 5)) (.int (xs.length : Int)) = some (.int ((i.fdiv 5).fdiv (xs.length : Int))) := v_fdiv h ⟨by omega, by
      have : bound30 = 2 ^ 30 := rfl
      omega⟩
    have lx : at_ xs (p : Int) = some xs[p] := by rw [at_nat, List.getElem?_eq_getElem hpl]
    obtain ⟨w, ew, pw, gw⟩ := h30 xs[p] (List.getElem_mem hpl) ((i.fdiv 5).fdiv (xs.length : Int))
    have cond : evE T (callF T (d + 1)) (.or (.op .eq (.bf .len false [(.var 1)]) (.cst (.int 0))) (.op .eq (.op .mod (.bf .int false [(.var 2)]) (.cst (.int 5))) (.cst (.int 1)))) [some (.str (nm K)), some (.tup xs), some (.int i), some (.int (i.fdiv 5)), none, none, none, none, none, none] h = .ok (.bl false) h := by
      have z1 : ((xs.length : Int) == 0) = false := by rw [beq_eq_false_iff_ne]; omega
      have z2 : (i.fmod 5 == 1) = false := by rw [beq_eq_false_iff_ne]; omega
      simp only [evE_var, evE_cst, evE_tup, evE_lst, evE_op, evE_neg, evE_not, evE_and, evE_or, evE_ite, evE_sub, evE_slice, evE_call, evE_callK, evE_bm, evE_bf, evE_isi, evEs_nil, evEs_cons, exS_asg, exS_augN, exS_expr, exS_ret, exS_ife, exB_nil', exB_cons', bind_ok', stm_ok', next_nx', next_rt', bind_exc', stm_exc', next_exc', ifO_t, ifO_f, opt_some, varO_some, laidV_int, laidV_bl, laidV_str, laidV_tup, laidV_lst, retO_rt, retO_nx, v_add, v_sub, v_lt, v_le, v_gt, v_ge, v_eqi, v_nei, t_bl, t_int, ofOpt_some', List.getElem?_cons_zero, List.getElem?_cons_succ, List.set_cons_zero, List.set_cons_succ, List.map_cons, List.map_nil, List.cons_append, List.nil_append, List.replicate_succ, List.replicate_zero, bindTg, setSlots, List.length_cons, List.length_nil, Nat.reduceAdd, Nat.reduceSub, Nat.reduceLT, ↓reduceIte, if_true, bf_int, bf_lent, bf_lenl, bf_lena, sub_t, sub_l, sub_a, z1, m5, z2]
    have ix : ∀ i : Int, intsV [Val.int i] = some [i] := fun i => rfl
    have i0 : intsV [] = some [] := rfl
    have hd : ∀ i : Int, [i].head? = some i := fun i => rfl
    have hd0 : ([] : List Int).head? = none := rfl
    have s1 : sliceV h (.tup xs) none (some (p : Int)) = some (.tup (xs.take p)) := by
      show some (Val.tup (cut xs none (some (p : Int)))) = _
      rw [cut_lo xs p (by omega)]
    have s2 : sliceV h (.tup xs) (some ((p : Int) + 1)) none = some (.tup (xs.drop (p + 1))) := by
      show some (Val.tup (cut xs (some (((p + 1 : Nat)) : Int)) none)) = _
      rw [cut_hi xs (p + 1) (by omega)]
    have a1 := v_addt h (xs := xs.take p) (ys := [w]) (by rw [List.length_take]; simp only [List.length_cons, List.length_nil]; omega)
    have a2 := v_addt h (xs := xs.take p ++ [w]) (ys := xs.drop (p + 1)) (by rw [List.length_append, List.length_take, List.length_drop]; simp only [List.length_cons, List.length_nil]; omega)
    refine ⟨.tup (xs.take p ++ [w] ++ xs.drop (p + 1)), ?_, .tup _ (pl_repl p hx pw), ?_⟩
    · simp only [b30, evE_var, evE_cst, evE_tup, evE_op, evE_call, evE_bf, evE_sub, evE_slice, evEs_nil, evEs_cons, exS_asg, exS_ret, exS_ife, exB_nil', exB_cons', bind_ok', stm_ok', next_nx', next_rt', ifO_t, ifO_f, opt_some, varO_some, laidV_int, laidV_tup, retO_rt, v_add, v_sub, v_eqi, t_bl, ofOpt_some', List.getElem?_cons_zero, List.getElem?_cons_succ, List.set_cons_zero, List.set_cons_succ, List.map_cons, List.map_nil, List.cons_append, List.nil_append, List.replicate_succ, List.replicate_zero, bindTg, setSlots, List.length_cons, List.length_nil, Nat.reduceAdd, Nat.reduceSub, Nat.reduceLT, ↓reduceIte, if_true, bf_int, bf_lent, sub_t, f5, (b h).qb, l4, l3, l1, (b h).qn, m5, d0, qm, cond, er, ml, fl, lx, ew, ix, i0, hd, hd0, s1, s2, a1, a2]
    · unfold okP
      have : (xs.take p ++ [w] ++ xs.drop (p + 1)).all (g k) = false := by
        rw [List.all_append, List.all_append]
        simp only [List.all_cons, List.all_nil, gw, Bool.false_and, Bool.and_false]
      simp only [this, Bool.and_false]
end
end K72

/-! K72: rows are spoilt -/
namespace K72
open MP
section
variable {T : Tb} (B : Tab T)
include B
omit B in
theorem ints5 {c : Int} (h1 : c ≠ 0) : (c == 0) = false := by rw [beq_eq_false_iff_ne]; exact h1
theorem sp_cut (d : Nat) (K : Kd) (b : ∀ h, Big K h) (hM : isM K = false) (x : Val) (xs : List Val) (hl : xs.length ≤ 100) (i : Int) (hi : i.fmod 5 = 1) (h : Heap) :
    callF T (d + 1) 30 [.str (nm K), .tup (x :: xs), .int i] h = .ok (.tup ((x :: xs).take xs.length)) h := by
  obtain ⟨l3, l4, l7, l5, l1, l0⟩ := ln
  have f5 : opV h .fdiv (.int i) (.int 5) = some (.int (i.fdiv 5)) := v_fdiv h (by decide)
  have m5 : opV h .mod (.int i) (.int 5) = some (.int 1) := (v_mod h (by decide)).trans (by rw [hi])
  have qm := (b h).qm
  rw [hM] at qm
  have d0 : ((1 : Int) == 0) = false := rfl
  have d1 : ((1 : Int) == 1) = true := rfl
  have ix : ∀ i : Int, intsV [Val.int i] = some [i] := fun i => rfl
  have i0 : intsV [] = some [] := rfl
  have hd : ∀ i : Int, [i].head? = some i := fun i => rfl
  have hd0 : ([] : List Int).head? = none := rfl
  have el : (((xs.length + 1 : Nat) : Int) - 1) = (xs.length : Int) := by omega
  have s1 : sliceV h (.tup (x :: xs)) none (some (xs.length : Int)) = some (.tup ((x :: xs).take xs.length)) := by
    show some (Val.tup (cut (x :: xs) none (some (xs.length : Int)))) = _
    rw [cut_lo (x :: xs) xs.length (by simp)]
  rw [callF_n T d 30 _ h _ B.f30 (B.fz 30 (by omega)) rfl]
  simp only [b30, evE_var, evE_cst, evE_tup, evE_op, evE_call, evE_bf, evE_sub, evE_slice, evEs_nil, evEs_cons, exS_asg, exS_ret, exS_ife, exB_nil', exB_cons', bind_ok', stm_ok', next_nx', next_rt', ifO_t, ifO_f, opt_some, varO_some, laidV_int, laidV_tup, retO_rt, v_add, v_sub, v_eqi, t_bl, ofOpt_some', List.getElem?_cons_zero, List.getElem?_cons_succ, List.set_cons_zero, List.set_cons_succ, List.map_cons, List.map_nil, List.cons_append, List.nil_append, List.replicate_succ, List.replicate_zero, bindTg, setSlots, List.length_cons, List.length_nil, Nat.reduceAdd, Nat.reduceSub, Nat.reduceLT, ↓reduceIte, if_true, bf_int, bf_lent, f5, (b h).qb, l4, l3, (b h).qn, m5, d0, d1, qm, ix, i0, hd, hd0, el, s1]
theorem sp_long (d : Nat) (K : Kd) (b : ∀ h, Big K h) (hM : isM K = false) (xs : List Val) (hl : xs.length ≤ 100) (i : Int) (hi : i.fmod 5 = 2) (h : Heap) :
    callF T (d + 1) 30 [.str (nm K), .tup xs, .int i] h = .ok (.tup (xs ++ [.int 0])) h := by
  obtain ⟨l3, l4, l7, l5, l1, l0⟩ := ln
  have lin : line = 16777216 := rfl
  have f5 : opV h .fdiv (.int i) (.int 5) = some (.int (i.fdiv 5)) := v_fdiv h (by decide)
  have m5 : opV h .mod (.int i) (.int 5) = some (.int 2) := (v_mod h (by decide)).trans (by rw [hi])
  have qm := (b h).qm
  rw [hM] at qm
  have d0 : ((2 : Int) == 0) = false := rfl
  have d1 : ((2 : Int) == 1) = false := rfl
  have d2 : ((2 : Int) == 2) = true := rfl
  have a1 := v_addt h (xs := xs) (ys := [.int 0]) (by simp only [List.length_cons, List.length_nil]; omega)
  rw [callF_n T d 30 _ h _ B.f30 (B.fz 30 (by omega)) rfl]
  simp only [b30, evE_var, evE_cst, evE_tup, evE_lst, evE_op, evE_neg, evE_not, evE_and, evE_or, evE_ite, evE_sub, evE_slice, evE_call, evE_callK, evE_bm, evE_bf, evE_isi, evEs_nil, evEs_cons, exS_asg, exS_augN, exS_expr, exS_ret, exS_ife, exB_nil', exB_cons', bind_ok', stm_ok', next_nx', next_rt', bind_exc', stm_exc', next_exc', ifO_t, ifO_f, opt_some, varO_some, laidV_int, laidV_bl, laidV_str, laidV_tup, laidV_lst, retO_rt, retO_nx, v_add, v_sub, v_lt, v_le, v_gt, v_ge, v_eqi, v_nei, t_bl, t_int, ofOpt_some', List.getElem?_cons_zero, List.getElem?_cons_succ, List.set_cons_zero, List.set_cons_succ, List.map_cons, List.map_nil, List.cons_append, List.nil_append, List.replicate_succ, List.replicate_zero, bindTg, setSlots, List.length_cons, List.length_nil, Nat.reduceAdd, Nat.reduceSub, Nat.reduceLT, ↓reduceIte, if_true, bf_int, bf_lent, bf_lenl, bf_lena, sub_t, sub_l, sub_a, f5, (b h).qb, l4, l3, l1, (b h).qn, m5, d0, d1, d2, qm, a1]
/-- the end of the def, its items known -/
def spT : List S := b30.drop 9
theorem sp_row (d : Nat) (K : Kd) (ks : List Kd) (hp : parts K = .row ks) (b : ∀ h, Big K h) (hM : isM K = false) (xs : List Val) (hx : ∀ x ∈ xs, Pl x) (i : Int) (hi : i.fmod 5 ≠ 0) (h : Heap) (g : Kd → Val → Bool) (ho : okR g ks xs = true) (hk0 : 0 < ks.length) (hk9 : ks.length ≤ 90)
    (h30 : ∀ k ∈ ks, ∀ x, g k x = true → ∀ i, ∃ w, callF T (d + 1) 30 [.str (nm k), x, .int i] h = .ok w h ∧ Pl w ∧ g k w = false) :
    ∃ w, callF T (d + 2) 30 [.str (nm K), .tup xs, .int i] h = .ok w h ∧ Pl w ∧ okP g (.row ks) w = false := by
  obtain ⟨l3, l4, l7, l5, l1, l0⟩ := ln
  have lin : line = 16777216 := rfl
  have xl := okR_len ks xs ho
  by_cases c1 : i.fmod 5 = 1
  · cases xs with
    | nil => simp at xl; omega
    | cons x xs =>
      refine ⟨_, sp_cut B (d + 1) K b hM x xs (by simp at xl; omega) i c1 h, .tup _ fun y hy => hx y (List.mem_of_mem_take hy), ?_⟩
      unfold okP
      exact okR_neq ks _ (by simp at xl ⊢; omega)
  by_cases c2 : i.fmod 5 = 2
  · refine ⟨_, sp_long B (d + 1) K b hM xs (by omega) i c2 h, .tup _ fun y hy => ?_, ?_⟩
    · rcases List.mem_append.mp hy with hy | hy
      · exact hx y hy
      · cases List.mem_singleton.mp hy; exact .int _
    · unfold okP
      exact okR_neq ks _ (by simp; omega)
  have f5 : opV h .fdiv (.int i) (.int 5) = some (.int (i.fdiv 5)) := v_fdiv h (by decide)
  have m5 : opV h .mod (.int i) (.int 5) = some (.int (i.fmod 5)) := v_mod h (by decide)
  have qm := (b h).qm
  rw [hM] at qm
  have d0 := ints5 hi
  have d1 : (i.fmod 5 == 1) = false := by rw [beq_eq_false_iff_ne]; exact c1
  have d2 : (i.fmod 5 == 2) = false := by rw [beq_eq_false_iff_ne]; exact c2
  have ei := items B d K h
  have e0 : itemsV K = .lst (ks.map fun k => .str (nm k)) := by unfold itemsV; rw [hp]
  rw [e0] at ei
  have nn := isnon h (ks.map fun k => .str (nm k))
  have h1 : 0 ≤ (i.fdiv 5).fmod (xs.length : Int) := Int.fmod_nonneg_of_pos _ (by omega)
  have h2 : (i.fdiv 5).fmod (xs.length : Int) < (xs.length : Int) := Int.fmod_lt_of_pos _ (by omega)
  obtain ⟨p, hp⟩ : ∃ p : Nat, (i.fdiv 5).fmod (xs.length : Int) = p := ⟨((i.fdiv 5).fmod (xs.length : Int)).toNat, by omega⟩
  have hpl : p < xs.length := by omega
  have ml : opV h .mod (.int (i.fdiv 5)) (.int (xs.length : Int)) = some (.int (p : Int)) := (v_mod h (by omega)).trans (by rw [hp])
  have fl : opV h .fdiv (.int (i.fdiv 5)) (.int (xs.length : Int)) = some (.int ((i.fdiv 5).fdiv (xs.length : Int))) := v_fdiv h ⟨by omega, by
    have : bound30 = 2 ^ 30 := rfl
    omega⟩
  have lx : at_ xs (p : Int) = some xs[p] := by rw [at_nat, List.getElem?_eq_getElem hpl]
  obtain ⟨kk, ek, gk⟩ := okR_get ks xs p xs[p] ho (List.getElem?_eq_getElem hpl)
  have lk : at_ (ks.map fun k => Val.str (nm k)) (p : Int) = some (.str (nm kk)) := by rw [at_nat, List.getElem?_map, ek]; rfl
  have qk := q_name h kk
  obtain ⟨w, ew, pw, gw⟩ := h30 kk (List.mem_of_getElem? ek) xs[p] gk ((i.fdiv 5).fdiv (xs.length : Int))
  have ix : ∀ i : Int, intsV [Val.int i] = some [i] := fun i => rfl
  have i0 : intsV [] = some [] := rfl
  have hd : ∀ i : Int, [i].head? = some i := fun i => rfl
  have hd0 : ([] : List Int).head? = none := rfl
  have s1 : sliceV h (.tup xs) none (some (p : Int)) = some (.tup (xs.take p)) := by
    show some (Val.tup (cut xs none (some (p : Int)))) = _
    rw [cut_lo xs p (by omega)]
  have s2 : sliceV h (.tup xs) (some ((p : Int) + 1)) none = some (.tup (xs.drop (p + 1))) := by
    show some (Val.tup (cut xs (some (((p + 1 : Nat)) : Int)) none)) = _
    rw [cut_hi xs (p + 1) (by omega)]
  have a1 := v_addt h (xs := xs.take p) (ys := [w]) (by rw [List.length_take]; simp only [List.length_cons, List.length_nil]; omega)
  have a2 := v_addt h (xs := xs.take p ++ [w]) (ys := xs.drop (p + 1)) (by rw [List.length_append, List.length_take, List.length_drop]; simp only [List.length_cons, List.length_nil]; omega)
  rw [callF_n T (d + 1) 30 _ h _ B.f30 (B.fz 30 (by omega)) rfl]
  refine ⟨.tup (xs.take p ++ [w] ++ xs.drop (p + 1)), ?_, .tup _ (pl_repl p hx pw), ?_⟩
  · simp only [b30, evE_var, evE_cst, evE_tup, evE_op, evE_call, evE_bf, evE_sub, evE_slice, evEs_nil, evEs_cons, exS_asg, exS_ret, exS_ife, exB_nil', exB_cons', bind_ok', stm_ok', next_nx', next_rt', ifO_t, ifO_f, opt_some, varO_some, laidV_int, laidV_tup, retO_rt, v_add, v_sub, v_eqi, t_bl, ofOpt_some', List.getElem?_cons_zero, List.getElem?_cons_succ, List.set_cons_zero, List.set_cons_succ, List.map_cons, List.map_nil, List.cons_append, List.nil_append, List.replicate_succ, List.replicate_zero, bindTg, setSlots, List.length_cons, List.length_nil, Nat.reduceAdd, Nat.reduceSub, Nat.reduceLT, ↓reduceIte, if_true, bf_int, bf_lent, sub_t, sub_l, f5, (b h).qb, l4, l3, l1, (b h).qn, m5, d0, d1, d2, qm, ei, nn, ml, fl, lk, qk, lx, ew, ix, i0, hd, hd0, s1, s2, a1, a2]
  · unfold okP
    exact okR_repl ks xs p kk hpl ek gw
end
def rowV2 (p : List Nat × List Kd) : Val := .tup [.str p.1, .lst (p.2.map fun k => .str (nm k))]
def hasN (s : List Nat) : Val → Bool
  | .tup (.str z :: _) => z == s
  | _ => false
theorem fil_rows (s : List Nat) : ∀ (rs : List (List Nat × List Kd)) (ks : List Kd), rs.lookup s = some ks → ∃ r, (rs.map rowV2).filter (hasN s) = rowV2 (s, ks) :: r ∧ r.length ≤ rs.length
  | [], _, e => by cases e
  | (z, k2) :: rs, ks, e => by
    rw [List.lookup_cons] at e
    rw [List.map_cons, List.filter_cons]
    by_cases q : s = z
    · subst q
      rw [beq_self_eq_true] at e
      cases e
      rw [if_pos (show hasN s (rowV2 (s, _)) = true by simp [hasN, rowV2])]
      exact ⟨_, rfl, Nat.le_trans (List.length_filter_le _ _) (by simp)⟩
    · have e1 : (s == z) = false := by rw [beq_eq_false_iff_ne]; exact q
      rw [e1] at e
      have : hasN s (rowV2 (z, k2)) = false := by simp only [hasN, rowV2]; rw [beq_eq_false_iff_ne]; exact fun h => q h.symm
      rw [if_neg (by rw [this]; simp)]
      obtain ⟨r, a, b⟩ := fil_rows s rs ks e
      exact ⟨r, a, by simp; omega⟩
section
variable {T : Tb} (B : Tab T)
include B
omit B in
theorem comp_rows (F : Fns) (rs : List (List Nat × List Kd)) (hl : rs.length ≤ 100) (hs : ∀ p ∈ rs, okT p.1 = true) (s : List Nat) (os : okT s = true) (K : List Nat) (xs : List Val) (h : Heap) (e25 : F 25 [.str K] h = .ok (.lst (rs.map rowV2)) h) (b c d4 d5 d6 d7 d8 d9 : Option Val) :
    evE T F (.comp false (.var 8) (.name 8) 0 [(.call 25 [(.var 0)])] [(.op .eq (.sub (.var 8) (.cst (.int 0))) (.sub (.var 1) (.cst (.int 0))))] [8]) [some (.str K), some (.tup (.str s :: xs)), b, c, d4, d5, d6, d7, d8, d9] h = .ok (.lst ((rs.map rowV2).filter (hasN s))) h := by
  have lin : line = 16777216 := rfl
  rw [evE_comp' _ _ _ _ (by decide)]
  have wk : walkV h 0 [.lst (rs.map rowV2)] = some (rs.map rowV2) := rfl
  simp only [evEs_cons, evEs_nil, evE_call, evE_var, List.getElem?_cons_zero, varO_some, bind_ok', e25, wk, opt_some]
  rw [compL_filter (q := hasN s) (by exact trivial) fun x hm => ?_]
  · simp only [compO_ok]
    exact newL_v (Nat.le_trans (List.length_filter_le _ _) (by rw [List.length_map]; omega))
  · obtain ⟨p, hp, rfl⟩ := List.mem_map.mp hm
    have ew : wipeS [some (.str K), some (.tup (.str s :: xs)), b, c, d4, d5, d6, d7, d8, d9] [8] = [some (.str K), some (.tup (.str s :: xs)), b, c, d4, d5, d6, d7, none, d9] := rfl
    have la : at_ (.str s :: xs) 0 = some (.str s) := at_nat (.str s :: xs) 0
    have lb : ∀ y : Val, at_ [Val.str p.1, y] 0 = some (.str p.1) := fun y => at_nat [Val.str p.1, y] 0
    have eh : hasN s (rowV2 p) = (p.1 == s) := rfl
    rw [eh]
    unfold cTurn
    rw [ew]
    simp only [rowV2, evE_var, evE_cst, evE_tup, evE_lst, evE_op, evE_neg, evE_not, evE_and, evE_or, evE_ite, evE_sub, evE_slice, evE_call, evE_callK, evE_bm, evE_bf, evE_isi, evEs_nil, evEs_cons, exS_asg, exS_augN, exS_expr, exS_ret, exS_ife, exB_nil', exB_cons', bind_ok', stm_ok', next_nx', next_rt', bind_exc', stm_exc', next_exc', ifO_t, ifO_f, opt_some, varO_some, laidV_int, laidV_bl, laidV_str, laidV_tup, laidV_lst, retO_rt, retO_nx, v_add, v_sub, v_lt, v_le, v_gt, v_ge, v_eqi, v_nei, t_bl, t_int, ofOpt_some', List.getElem?_cons_zero, List.getElem?_cons_succ, List.set_cons_zero, List.set_cons_succ, List.map_cons, List.map_nil, List.cons_append, List.nil_append, List.replicate_succ, List.replicate_zero, bindTg, setSlots, List.length_cons, List.length_nil, Nat.reduceAdd, Nat.reduceSub, Nat.reduceLT, ↓reduceIte, if_true, bf_int, bf_lent, bf_lenl, bf_lena, sub_t, sub_l, sub_a, la, lb, v_eqs h (hs p hp) os]
    cases p.1 == s <;> rfl
theorem sp_named (d : Nat) (K : Kd) (rs : List (List Nat × List Kd)) (hp : parts K = .named rs) (b : ∀ h, Big K h) (hM : isM K = false) (hl : rs.length ≤ 90) (ht : ∀ p ∈ rs, okT p.1 = true) (hx1 : rs.lookup [120] = none) (hx2 : rs.lookup [112, 97, 121, 115] = none)
    (s : List Nat) (ks : List Kd) (hs : rs.lookup s = some ks) (hk : ks.length ≤ 80) (xs : List Val) (hx : ∀ x ∈ xs, Pl x) (i : Int) (hi : i.fmod 5 ≠ 0) (h : Heap) (g : Kd → Val → Bool) (ho : okR g ks xs = true)
    (h30 : ∀ k ∈ ks, ∀ x, g k x = true → ∀ i, ∃ w, callF T (d + 1) 30 [.str (nm k), x, .int i] h = .ok w h ∧ Pl w ∧ g k w = false) :
    ∃ w, callF T (d + 2) 30 [.str (nm K), .tup (.str s :: xs), .int i] h = .ok w h ∧ Pl w ∧ okP g (.named rs) w = false := by
  obtain ⟨l3, l4, l7, l5, l1, l0⟩ := ln
  have lin : line = 16777216 := rfl
  have xl := okR_len ks xs ho
  have hxs : ∀ x ∈ Val.str s :: xs, Pl x := fun x hm => by
    rcases List.mem_cons.mp hm with rfl | hm
    · exact .str s
    · exact hx x hm
  have bad : ∀ ys : List Val, ys.length ≠ ks.length → okP g (.named rs) (.tup (.str s :: ys)) = false := fun ys hy => by
    unfold okP
    dsimp only
    rw [hs]
    exact okR_neq ks ys hy
  by_cases c1 : i.fmod 5 = 1
  · refine ⟨_, sp_cut B (d + 1) K b hM (.str s) xs (by omega) i c1 h, .tup _ fun y hy => hxs y (List.mem_of_mem_take hy), ?_⟩
    cases xs with
    | nil => rfl
    | cons x xs => exact bad ((x :: xs).take xs.length) (by simp at xl ⊢; omega)
  by_cases c2 : i.fmod 5 = 2
  · refine ⟨_, sp_long B (d + 1) K b hM (.str s :: xs) (by simp; omega) i c2 h, .tup _ fun y hy => ?_, ?_⟩
    · rcases List.mem_append.mp hy with hy | hy
      · exact hxs y hy
      · cases List.mem_singleton.mp hy; exact .int _
    · exact bad (xs ++ [.int 0]) (by simp; omega)
  have f5 : opV h .fdiv (.int i) (.int 5) = some (.int (i.fdiv 5)) := v_fdiv h (by decide)
  have m5 : opV h .mod (.int i) (.int 5) = some (.int (i.fmod 5)) := v_mod h (by decide)
  have qm := (b h).qm
  rw [hM] at qm
  have d0 := ints5 hi
  have d1 : (i.fmod 5 == 1) = false := by rw [beq_eq_false_iff_ne]; exact c1
  have d2 : (i.fmod 5 == 2) = false := by rw [beq_eq_false_iff_ne]; exact c2
  have ei := items B d K h
  have e0 : itemsV K = .non := by unfold itemsV; rw [hp]
  rw [e0] at ei
  have er := rowsT B d K h
  have e0 : rowsV K = .lst (rs.map rowV2) := by unfold rowsV; rw [hp]; rfl
  rw [e0] at er
  obtain ⟨z, hz⟩ := look_mem rs hs
  have os : okT s = true := by
    have key : ∀ rs : List (List Nat × List Kd), (∀ p ∈ rs, okT p.1 = true) → rs.lookup s = some ks → okT s = true := by
      intro rs
      induction rs with
      | nil => intro _ e; cases e
      | cons p rs ih =>
        intro ht e
        obtain ⟨z, k2⟩ := p
        rw [List.lookup_cons] at e
        split at e
        · rename_i q
          have := ht (z, k2) (by simp)
          rw [beq_iff_eq.mp q]
          exact this
        · exact ih (fun p hp => ht p (List.mem_cons_of_mem _ hp)) e
    exact key rs ht hs
  obtain ⟨r, efl, hr⟩ := fil_rows s rs ks hs
  have ec := comp_rows (T := T) (callF T (d + 1)) rs (by omega) ht s os (nm K) xs h er (some (.int i)) (some (.int (i.fdiv 5))) (some .non) none none none none none
  rw [efl] at ec
  have la : at_ (rowV2 (s, ks) :: r) 0 = some (rowV2 (s, ks)) := at_nat (rowV2 (s, ks) :: r) 0
  have lb : subV h (rowV2 (s, ks)) (.int 1) = some (.lst (ks.map fun k => .str (nm k))) := at_nat [Val.str s, .lst (ks.map fun k => .str (nm k))] 1
  have al : opV h .add (.lst [.str [110, 97, 109, 101]]) (.lst (ks.map fun k => Val.str (nm k))) = some (.lst (.str [110, 97, 109, 101] :: ks.map fun k => Val.str (nm k))) := v_addl h (xs := [.str [110, 97, 109, 101]]) (ys := ks.map fun k => Val.str (nm k)) (by rw [List.length_map]; simp only [List.length_cons, List.length_nil]; omega)
  have n1 : newL false [Val.str [110, 97, 109, 101]] h = .ok (.lst _) h := newF l1
  have h1 : 0 ≤ (i.fdiv 5).fmod ((xs.length + 1 : Nat) : Int) := Int.fmod_nonneg_of_pos _ (by omega)
  have h2 : (i.fdiv 5).fmod ((xs.length + 1 : Nat) : Int) < ((xs.length + 1 : Nat) : Int) := Int.fmod_lt_of_pos _ (by omega)
  obtain ⟨p, hp⟩ : ∃ p : Nat, (i.fdiv 5).fmod ((xs.length + 1 : Nat) : Int) = p := ⟨((i.fdiv 5).fmod ((xs.length + 1 : Nat) : Int)).toNat, by omega⟩
  have ml : opV h .mod (.int (i.fdiv 5)) (.int ((xs.length + 1 : Nat) : Int)) = some (.int (p : Int)) := (v_mod h (by omega)).trans (by rw [hp])
  have fl : opV h .fdiv (.int (i.fdiv 5)) (.int ((xs.length + 1 : Nat) : Int)) = some (.int ((i.fdiv 5).fdiv ((xs.length + 1 : Nat) : Int))) := v_fdiv h ⟨by omega, by
    have : bound30 = 2 ^ 30 := rfl
    omega⟩
  have ix : ∀ i : Int, intsV [Val.int i] = some [i] := fun i => rfl
  have i0 : intsV [] = some [] := rfl
  have hd : ∀ i : Int, [i].head? = some i := fun i => rfl
  have hd0 : ([] : List Int).head? = none := rfl
  rw [callF_n T (d + 1) 30 _ h _ B.f30 (B.fz 30 (by omega)) rfl]
  cases p with
  | zero =>
    have m55 : ∀ x : Int, opV h .mod (.int x) (.int 5) = some (.int (x.fmod 5)) := fun x => v_mod h (by decide)
    obtain ⟨x, hxm, ex⟩ := at_mod [Val.str [120], .int 0, .non, .str [112, 97, 121, 115], .tup []] (n := 5) (by decide) rfl ((i.fdiv 5).fdiv ((xs.length + 1 : Nat) : Int))
    have n5 : newL false [Val.str [120], .int 0, .non, .str [112, 97, 121, 115], .tup []] h = .ok (.lst _) h := newF l5
    have ln0 : at_ (Val.str [110, 97, 109, 101] :: ks.map fun k => Val.str (nm k)) ((0 : Nat) : Int) = some (.str [110, 97, 109, 101]) := by rw [at_nat]; rfl
    have s1 : sliceV h (.tup (.str s :: xs)) (some 1) none = some (.tup xs) := by
      show some (Val.tup (cut (.str s :: xs) (some 1) none)) = _
      rw [cut1]
    have a1 : opV h .add (.tup [x]) (.tup xs) = some (.tup (x :: xs)) := v_addt h (xs := [x]) (ys := xs) (by simp only [List.length_cons, List.length_nil]; omega)
    refine ⟨.tup (x :: xs), ?_, .tup _ fun y hy => ?_, ?_⟩
    · simp only [b30, evE_var, evE_cst, evE_tup, evE_lst, evE_op, evE_call, evE_bf, evE_sub, evE_slice, evEs_nil, evEs_cons, exS_asg, exS_ret, exS_ife, exB_nil', exB_cons', bind_ok', stm_ok', next_nx', next_rt', ifO_t, ifO_f, opt_some, varO_some, laidV_int, laidV_tup, retO_rt, v_add, v_sub, v_eqi, t_bl, ofOpt_some', List.getElem?_cons_zero, List.getElem?_cons_succ, List.set_cons_zero, List.set_cons_succ, List.map_cons, List.map_nil, List.replicate_succ, List.replicate_zero, bindTg, setSlots, List.length_cons, List.length_nil, Nat.reduceAdd, Nat.reduceSub, Nat.reduceLT, ↓reduceIte, if_true, bf_int, bf_lent, sub_t, sub_l, f5, (b h).qb, l4, l3, l1, l0, (b h).qn, m5, d0, d1, d2, qm, ei, v_is_nn, ec, la, lb, n1, al, ml, ln0, q_name2, n5, fl, m55, ex, ix, i0, hd, hd0, s1, a1, List.cons_append, List.nil_append]
    · rcases List.mem_cons.mp hy with rfl | hy
      · simp only [List.mem_cons, List.not_mem_nil, or_false] at hxm
        rcases hxm with rfl | rfl | rfl | rfl | rfl
        · exact .str _
        · exact .int _
        · exact .non
        · exact .str _
        · exact .tup _ (fun x hx => by cases hx)
      · exact hx y hy
    · simp only [List.mem_cons, List.not_mem_nil, or_false] at hxm
      unfold okP
      rcases hxm with rfl | rfl | rfl | rfl | rfl
      · simp only [hx1]
      · rfl
      · rfl
      · simp only [hx2]
      · rfl
  | succ p =>
    have hpl : p < xs.length := by omega
    have lx : at_ (.str s :: xs) ((p + 1 : Nat) : Int) = some xs[p] := by rw [at_nat]; simp [hpl]
    obtain ⟨kk, ek, gk⟩ := okR_get ks xs p xs[p] ho (List.getElem?_eq_getElem hpl)
    have lk : at_ (Val.str [110, 97, 109, 101] :: ks.map fun k => Val.str (nm k)) ((p + 1 : Nat) : Int) = some (.str (nm kk)) := by rw [at_nat, List.getElem?_cons_succ, List.getElem?_map, ek]; rfl
    have qk := q_name h kk
    obtain ⟨w, ew, pw, gw⟩ := h30 kk (List.mem_of_getElem? ek) xs[p] gk ((i.fdiv 5).fdiv ((xs.length + 1 : Nat) : Int))
    have s1 : sliceV h (.tup (.str s :: xs)) none (some ((p + 1 : Nat) : Int)) = some (.tup ((.str s :: xs).take (p + 1))) := by
      show some (Val.tup (cut (.str s :: xs) none (some ((p + 1 : Nat) : Int)))) = _
      rw [cut_lo (.str s :: xs) (p + 1) (by simp; omega)]
    have s2 : sliceV h (.tup (.str s :: xs)) (some (((p + 1 : Nat) : Int) + 1)) none = some (.tup ((.str s :: xs).drop (p + 2))) := by
      show some (Val.tup (cut (.str s :: xs) (some ((p + 2 : Nat) : Int)) none)) = _
      rw [cut_hi (.str s :: xs) (p + 2) (by simp; omega)]
    have a1 := v_addt h (xs := (Val.str s :: xs).take (p + 1)) (ys := [w]) (by rw [List.length_take]; simp only [List.length_cons, List.length_nil]; omega)
    have a2 := v_addt h (xs := (Val.str s :: xs).take (p + 1) ++ [w]) (ys := (Val.str s :: xs).drop (p + 2)) (by rw [List.length_append, List.length_take, List.length_drop]; simp only [List.length_cons, List.length_nil]; omega)
    refine ⟨.tup ((Val.str s :: xs).take (p + 1) ++ [w] ++ (Val.str s :: xs).drop (p + 2)), ?_, .tup _ (pl_repl (p + 1) hxs pw), ?_⟩
    · simp only [b30, evE_var, evE_cst, evE_tup, evE_lst, evE_op, evE_call, evE_bf, evE_sub, evE_slice, evEs_nil, evEs_cons, exS_asg, exS_ret, exS_ife, exB_nil', exB_cons', bind_ok', stm_ok', next_nx', next_rt', ifO_t, ifO_f, opt_some, varO_some, laidV_int, laidV_tup, retO_rt, v_add, v_sub, v_eqi, t_bl, ofOpt_some', List.getElem?_cons_zero, List.getElem?_cons_succ, List.set_cons_zero, List.set_cons_succ, List.map_cons, List.map_nil, List.replicate_succ, List.replicate_zero, bindTg, setSlots, List.length_cons, List.length_nil, Nat.reduceAdd, Nat.reduceSub, Nat.reduceLT, ↓reduceIte, if_true, bf_int, bf_lent, sub_t, sub_l, f5, (b h).qb, l4, l3, l1, l0, (b h).qn, m5, d0, d1, d2, qm, ei, v_is_nn, ec, la, lb, n1, al, ml, lk, qk, lx, fl, ew, ix, i0, hd, hd0, s1, s2, a1, a2, List.cons_append, List.nil_append]
    · show okP g (.named rs) (.tup (.str s :: (xs.take p ++ [w] ++ xs.drop (p + 1)))) = false
      unfold okP
      dsimp only
      rw [hs]
      exact okR_repl ks xs p kk hpl ek gw
end
end K72

/-! K72: the law -/
namespace K72
open MP
def isBig (K : Kd) : Bool := !(isB K || (isN K || isF K))
theorem big (K : Kd) (e : isBig K = true) (h : Heap) : Big K h := by
  unfold isBig at e
  simp only [Bool.not_eq_true', Bool.or_eq_false_iff] at e
  exact big_of K h e.1 (by rw [Bool.or_eq_false_iff]; exact e.2)
def tab2 (rs : List (List Nat × List Kd)) : Bool := decide (rs.length ≤ 90) && (rs.all fun p => okT p.1) && decide (rs.lookup [120] = none) && decide (rs.lookup [112, 97, 121, 115] = none) && rs.all fun p => decide (p.2.length ≤ 80)
theorem tab2_ok (K : Kd) (rs : List (List Nat × List Kd)) (hp : parts K = .named rs) : tab2 rs = true ∧ isBig K = true ∧ isM K = false := by cases K <;> cases hp <;> exact ⟨by decide, rfl, rfl⟩
section
variable {T : Tb} (B : Tab T)
include B
theorem spoil : ∀ (z : Nat) (K : Kd), rank K < z → ∀ d, z + 3 ≤ d → ∀ v i h, ok z K v = true → ∃ w, callF T d 30 [.str (nm K), v, .int i] h = .ok w h ∧ Pl w ∧ ok z K w = false := by
  intro z
  induction z with
  | zero => intro K hK; omega
  | succ z ih =>
    intro K hK d hd v i h hv
    obtain ⟨m, rfl⟩ : ∃ m, d = m + 3 := ⟨d - 3, by omega⟩
    have pv := ok_pl (z + 1) K v hv
    have low : ∀ k, rank k < rank K → ∀ x, ok z k x = true → ∀ i, ∃ w, callF T (m + 2) 30 [.str (nm k), x, .int i] h = .ok w h ∧ Pl w ∧ ok z k w = false := fun k hk x hx i => ih k (by omega) (m + 2) (by omega) x i h hx
    have mk : ∀ k, rank k < rank K → ∀ i, ∃ y, callF T (m + 2) 28 [.str (nm k), .int i] h = .ok y h ∧ Pl y := fun k hk i => by
      obtain ⟨y, e, o⟩ := make B z k (by omega) (m + 2) (by omega) i h
      exact ⟨y, e, ok_pl z k y o⟩
    have bl := parts_below K
    have hv : okP (ok z) (parts K) v = true := hv
    show ∃ w, _ ∧ Pl w ∧ okP (ok z) (parts K) w = false
    have zero : isBig K = true → (∀ lo hi, parts K ≠ .num lo hi) → parts K ≠ .flag → i.fmod 5 = 0 → ∃ w, callF T (m + 3) 30 [.str (nm K), v, .int i] h = .ok w h ∧ Pl w ∧ okP (ok z) (parts K) w = false := fun e1 e2 e3 hi => by
      obtain ⟨x, hx, e⟩ := sp_zero B (m + 2) K (big K e1) v i hi h
      obtain ⟨p, q⟩ := lit4 x hx
      exact ⟨x, e, p, q _ _ e2 e3⟩
    cases ep : parts K with
    | flag =>
      have : K = .b := by cases K <;> cases ep <;> rfl
      subst this
      exact sp_flag B (m + 2) v i h (ok z)
    | num lo hi =>
      cases K <;> cases ep
      · exact sp_num B m .n 4294967295 0 rfl rfl rfl v i h (ok z)
      · exact sp_num B m .a 1000000000000000 0 rfl rfl rfl v i h (ok z)
      · exact sp_num B m .h 1000000000000 0 rfl rfl rfl v i h (ok z)
      · exact sp_num B m .f 3000000000000000 (-3000000000000000) rfl rfl rfl v i h (ok z)
    | many n k =>
      have eB : isBig K = true := by cases K <;> cases ep <;> rfl
      by_cases hi : i.fmod 5 = 0
      · have := zero eB (fun _ _ q => by rw [ep] at q; cases q) (fun q => by rw [ep] at q; cases q) hi
        rw [ep] at this
        exact this
      rw [ep] at hv bl
      have hk : rank k < rank K := by simpa [below] using bl
      obtain ⟨xs, rfl, h1, h2⟩ : ∃ xs, v = .tup xs ∧ xs.length ≤ n ∧ ∀ x ∈ xs, ok z k x = true := by
        unfold okP at hv
        cases v with
        | tup xs =>
          simp only [Bool.and_eq_true, decide_eq_true_eq] at hv
          exact ⟨xs, rfl, hv.1, List.all_eq_true.mp hv.2⟩
        | _ => cases hv
      cases K <;> cases ep
      · exact sp_many B (m + 1) .hands .n 4 (big _ eB) rfl rfl rfl (by omega) xs h1 (pl_tup pv) i hi h (ok z) (mk .n hk) fun x hx i => low .n hk x (h2 x hx) i
      · exact sp_many B (m + 1) .locks .lock 30 (big _ eB) rfl rfl rfl (by omega) xs h1 (pl_tup pv) i hi h (ok z) (mk .lock hk) fun x hx i => low .lock hk x (h2 x hx) i
      · exact sp_many B (m + 1) .step .move 16 (big _ eB) rfl rfl rfl (by omega) xs h1 (pl_tup pv) i hi h (ok z) (mk .move hk) fun x hx i => low .move hk x (h2 x hx) i
    | row ks =>
      have eB : isBig K = true := by cases K <;> cases ep <;> rfl
      have eM : isM K = false := by cases K <;> cases ep <;> rfl
      have el : 0 < ks.length ∧ ks.length ≤ 90 := by cases K <;> cases ep <;> decide
      by_cases hi : i.fmod 5 = 0
      · have := zero eB (fun _ _ q => by rw [ep] at q; cases q) (fun q => by rw [ep] at q; cases q) hi
        rw [ep] at this
        exact this
      rw [ep] at hv bl
      obtain ⟨xs, rfl, ho⟩ : ∃ xs, v = .tup xs ∧ okR (ok z) ks xs = true := by
        unfold okP at hv
        cases v with
        | tup xs => exact ⟨xs, rfl, hv⟩
        | _ => cases hv
      exact sp_row B (m + 1) K ks ep (big K eB) eM xs (pl_tup pv) i hi h (ok z) ho el.1 el.2 fun k hk x hx i => low k (by simpa using List.all_eq_true.mp bl k hk) x hx i
    | named rs =>
      obtain ⟨t2, eB, eM⟩ := tab2_ok K rs ep
      by_cases hi : i.fmod 5 = 0
      · have := zero eB (fun _ _ q => by rw [ep] at q; cases q) (fun q => by rw [ep] at q; cases q) hi
        rw [ep] at this
        exact this
      rw [ep] at hv bl
      unfold tab2 at t2
      simp only [Bool.and_eq_true, decide_eq_true_eq, List.all_eq_true] at t2
      obtain ⟨⟨⟨⟨u1, u2⟩, u3⟩, u4⟩, u5⟩ := t2
      obtain ⟨s, ks, xs, rfl, hs, ho⟩ : ∃ s ks xs, v = .tup (.str s :: xs) ∧ rs.lookup s = some ks ∧ okR (ok z) ks xs = true := by
        unfold okP at hv
        dsimp only at hv
        split at hv
        · rename_i s xs _
          cases q : rs.lookup s with
          | none => rw [q] at hv; cases hv
          | some ks => rw [q] at hv; exact ⟨s, ks, xs, rfl, q, hv⟩
        · cases hv
      obtain ⟨s0, hm⟩ := look_mem rs hs
      exact sp_named B (m + 1) K rs ep (big K eB) eM u1 u2 u3 u4 s ks hs (u5 _ hm) xs (fun x hx => pl_tup pv x (List.mem_cons_of_mem _ hx)) i hi h (ok z) ho fun k hk x hx i => low k (by simpa using List.all_eq_true.mp (List.all_eq_true.mp bl _ hm) k hk) x hx i
theorem told_lock (d : Nat) (v : Val) (h h' : Heap) (r : Bool) (e : callF T d 9 [v] h = .ok (.bl r) h') : callF T (d + 1) 31 [.str [108, 111, 99, 107], v] h = .ok (.bl r) h' := by
  have e0 : opV h .eq (.str [108, 111, 99, 107]) (.str [108, 111, 99, 107]) = some (.bl true) := Eq.trans rfl rfl
  rw [callF_n T d 31 _ h _ B.f31 (B.fz 31 (by omega)) rfl]
  simp only [b31, evE_var, evE_cst, evE_tup, evE_lst, evE_op, evE_neg, evE_not, evE_and, evE_or, evE_ite, evE_sub, evE_slice, evE_call, evE_callK, evE_bm, evE_bf, evE_isi, evEs_nil, evEs_cons, exS_asg, exS_augN, exS_expr, exS_ret, exS_ife, exB_nil', exB_cons', bind_ok', stm_ok', next_nx', next_rt', bind_exc', stm_exc', next_exc', ifO_t, ifO_f, opt_some, varO_some, laidV_int, laidV_bl, laidV_str, laidV_tup, laidV_lst, retO_rt, retO_nx, v_add, v_sub, v_lt, v_le, v_gt, v_ge, v_eqi, v_nei, t_bl, t_int, ofOpt_some', List.getElem?_cons_zero, List.getElem?_cons_succ, List.set_cons_zero, List.set_cons_succ, List.map_cons, List.map_nil, List.cons_append, List.nil_append, List.replicate_succ, List.replicate_zero, bindTg, setSlots, List.length_cons, List.length_nil, Nat.reduceAdd, Nat.reduceSub, Nat.reduceLT, ↓reduceIte, if_true, bf_int, bf_lent, bf_lenl, bf_lena, sub_t, sub_l, sub_a, e0, e]
theorem told_state (d : Nat) (v : Val) (h h' : Heap) (r : Bool) (e : callF T d 11 [v] h = .ok (.bl r) h') : callF T (d + 1) 31 [.str [115, 116, 97, 116, 101], v] h = .ok (.bl r) h' := by
  have e0 : opV h .eq (.str [115, 116, 97, 116, 101]) (.str [108, 111, 99, 107]) = some (.bl false) := Eq.trans rfl rfl
  have e1 : opV h .eq (.str [115, 116, 97, 116, 101]) (.str [115, 116, 97, 116, 101]) = some (.bl true) := Eq.trans rfl rfl
  rw [callF_n T d 31 _ h _ B.f31 (B.fz 31 (by omega)) rfl]
  simp only [b31, evE_var, evE_cst, evE_tup, evE_lst, evE_op, evE_neg, evE_not, evE_and, evE_or, evE_ite, evE_sub, evE_slice, evE_call, evE_callK, evE_bm, evE_bf, evE_isi, evEs_nil, evEs_cons, exS_asg, exS_augN, exS_expr, exS_ret, exS_ife, exB_nil', exB_cons', bind_ok', stm_ok', next_nx', next_rt', bind_exc', stm_exc', next_exc', ifO_t, ifO_f, opt_some, varO_some, laidV_int, laidV_bl, laidV_str, laidV_tup, laidV_lst, retO_rt, retO_nx, v_add, v_sub, v_lt, v_le, v_gt, v_ge, v_eqi, v_nei, t_bl, t_int, ofOpt_some', List.getElem?_cons_zero, List.getElem?_cons_succ, List.set_cons_zero, List.set_cons_succ, List.map_cons, List.map_nil, List.cons_append, List.nil_append, List.replicate_succ, List.replicate_zero, bindTg, setSlots, List.length_cons, List.length_nil, Nat.reduceAdd, Nat.reduceSub, Nat.reduceLT, ↓reduceIte, if_true, bf_int, bf_lent, bf_lenl, bf_lena, sub_t, sub_l, sub_a, e0, e1, e]
theorem told_opening (d : Nat) (v : Val) (h h' : Heap) (r : Bool) (e : callF T d 12 [v] h = .ok (.bl r) h') : callF T (d + 1) 31 [.str [111, 112, 101, 110, 105, 110, 103], v] h = .ok (.bl r) h' := by
  have e0 : opV h .eq (.str [111, 112, 101, 110, 105, 110, 103]) (.str [108, 111, 99, 107]) = some (.bl false) := Eq.trans rfl rfl
  have e1 : opV h .eq (.str [111, 112, 101, 110, 105, 110, 103]) (.str [115, 116, 97, 116, 101]) = some (.bl false) := Eq.trans rfl rfl
  have e2 : opV h .eq (.str [111, 112, 101, 110, 105, 110, 103]) (.str [111, 112, 101, 110, 105, 110, 103]) = some (.bl true) := Eq.trans rfl rfl
  rw [callF_n T d 31 _ h _ B.f31 (B.fz 31 (by omega)) rfl]
  simp only [b31, evE_var, evE_cst, evE_tup, evE_lst, evE_op, evE_neg, evE_not, evE_and, evE_or, evE_ite, evE_sub, evE_slice, evE_call, evE_callK, evE_bm, evE_bf, evE_isi, evEs_nil, evEs_cons, exS_asg, exS_augN, exS_expr, exS_ret, exS_ife, exB_nil', exB_cons', bind_ok', stm_ok', next_nx', next_rt', bind_exc', stm_exc', next_exc', ifO_t, ifO_f, opt_some, varO_some, laidV_int, laidV_bl, laidV_str, laidV_tup, laidV_lst, retO_rt, retO_nx, v_add, v_sub, v_lt, v_le, v_gt, v_ge, v_eqi, v_nei, t_bl, t_int, ofOpt_some', List.getElem?_cons_zero, List.getElem?_cons_succ, List.set_cons_zero, List.set_cons_succ, List.map_cons, List.map_nil, List.cons_append, List.nil_append, List.replicate_succ, List.replicate_zero, bindTg, setSlots, List.length_cons, List.length_nil, Nat.reduceAdd, Nat.reduceSub, Nat.reduceLT, ↓reduceIte, if_true, bf_int, bf_lent, bf_lenl, bf_lena, sub_t, sub_l, sub_a, e0, e1, e2, e]
theorem told_splice (d : Nat) (v : Val) (h h' : Heap) (r : Bool) (e : callF T d 13 [v] h = .ok (.bl r) h') : callF T (d + 1) 31 [.str [115, 112, 108, 105, 99, 101], v] h = .ok (.bl r) h' := by
  have e0 : opV h .eq (.str [115, 112, 108, 105, 99, 101]) (.str [108, 111, 99, 107]) = some (.bl false) := Eq.trans rfl rfl
  have e1 : opV h .eq (.str [115, 112, 108, 105, 99, 101]) (.str [115, 116, 97, 116, 101]) = some (.bl false) := Eq.trans rfl rfl
  have e2 : opV h .eq (.str [115, 112, 108, 105, 99, 101]) (.str [111, 112, 101, 110, 105, 110, 103]) = some (.bl false) := Eq.trans rfl rfl
  have e3 : opV h .eq (.str [115, 112, 108, 105, 99, 101]) (.str [115, 112, 108, 105, 99, 101]) = some (.bl true) := Eq.trans rfl rfl
  rw [callF_n T d 31 _ h _ B.f31 (B.fz 31 (by omega)) rfl]
  simp only [b31, evE_var, evE_cst, evE_tup, evE_lst, evE_op, evE_neg, evE_not, evE_and, evE_or, evE_ite, evE_sub, evE_slice, evE_call, evE_callK, evE_bm, evE_bf, evE_isi, evEs_nil, evEs_cons, exS_asg, exS_augN, exS_expr, exS_ret, exS_ife, exB_nil', exB_cons', bind_ok', stm_ok', next_nx', next_rt', bind_exc', stm_exc', next_exc', ifO_t, ifO_f, opt_some, varO_some, laidV_int, laidV_bl, laidV_str, laidV_tup, laidV_lst, retO_rt, retO_nx, v_add, v_sub, v_lt, v_le, v_gt, v_ge, v_eqi, v_nei, t_bl, t_int, ofOpt_some', List.getElem?_cons_zero, List.getElem?_cons_succ, List.set_cons_zero, List.set_cons_succ, List.map_cons, List.map_nil, List.cons_append, List.nil_append, List.replicate_succ, List.replicate_zero, bindTg, setSlots, List.length_cons, List.length_nil, Nat.reduceAdd, Nat.reduceSub, Nat.reduceLT, ↓reduceIte, if_true, bf_int, bf_lent, bf_lenl, bf_lena, sub_t, sub_l, sub_a, e0, e1, e2, e3, e]
theorem told_thing (d : Nat) (v : Val) (h h' : Heap) (r : Bool) (e : callF T d 16 [v] h = .ok (.bl r) h') : callF T (d + 1) 31 [.str [116, 104, 105, 110, 103], v] h = .ok (.bl r) h' := by
  have e0 : opV h .eq (.str [116, 104, 105, 110, 103]) (.str [108, 111, 99, 107]) = some (.bl false) := Eq.trans rfl rfl
  have e1 : opV h .eq (.str [116, 104, 105, 110, 103]) (.str [115, 116, 97, 116, 101]) = some (.bl false) := Eq.trans rfl rfl
  have e2 : opV h .eq (.str [116, 104, 105, 110, 103]) (.str [111, 112, 101, 110, 105, 110, 103]) = some (.bl false) := Eq.trans rfl rfl
  have e3 : opV h .eq (.str [116, 104, 105, 110, 103]) (.str [115, 112, 108, 105, 99, 101]) = some (.bl false) := Eq.trans rfl rfl
  have e4 : opV h .eq (.str [116, 104, 105, 110, 103]) (.str [116, 104, 105, 110, 103]) = some (.bl true) := Eq.trans rfl rfl
  rw [callF_n T d 31 _ h _ B.f31 (B.fz 31 (by omega)) rfl]
  simp only [b31, evE_var, evE_cst, evE_tup, evE_lst, evE_op, evE_neg, evE_not, evE_and, evE_or, evE_ite, evE_sub, evE_slice, evE_call, evE_callK, evE_bm, evE_bf, evE_isi, evEs_nil, evEs_cons, exS_asg, exS_augN, exS_expr, exS_ret, exS_ife, exB_nil', exB_cons', bind_ok', stm_ok', next_nx', next_rt', bind_exc', stm_exc', next_exc', ifO_t, ifO_f, opt_some, varO_some, laidV_int, laidV_bl, laidV_str, laidV_tup, laidV_lst, retO_rt, retO_nx, v_add, v_sub, v_lt, v_le, v_gt, v_ge, v_eqi, v_nei, t_bl, t_int, ofOpt_some', List.getElem?_cons_zero, List.getElem?_cons_succ, List.set_cons_zero, List.set_cons_succ, List.map_cons, List.map_nil, List.cons_append, List.nil_append, List.replicate_succ, List.replicate_zero, bindTg, setSlots, List.length_cons, List.length_nil, Nat.reduceAdd, Nat.reduceSub, Nat.reduceLT, ↓reduceIte, if_true, bf_int, bf_lent, bf_lenl, bf_lena, sub_t, sub_l, sub_a, e0, e1, e2, e3, e4, e]
theorem told_act (d : Nat) (v : Val) (h h' : Heap) (r : Bool) (e : callF T d 14 [v] h = .ok (.bl r) h') : callF T (d + 1) 31 [.str [97, 99, 116], v] h = .ok (.bl r) h' := by
  have e0 : opV h .eq (.str [97, 99, 116]) (.str [108, 111, 99, 107]) = some (.bl false) := Eq.trans rfl rfl
  have e1 : opV h .eq (.str [97, 99, 116]) (.str [115, 116, 97, 116, 101]) = some (.bl false) := Eq.trans rfl rfl
  have e2 : opV h .eq (.str [97, 99, 116]) (.str [111, 112, 101, 110, 105, 110, 103]) = some (.bl false) := Eq.trans rfl rfl
  have e3 : opV h .eq (.str [97, 99, 116]) (.str [115, 112, 108, 105, 99, 101]) = some (.bl false) := Eq.trans rfl rfl
  have e4 : opV h .eq (.str [97, 99, 116]) (.str [116, 104, 105, 110, 103]) = some (.bl false) := Eq.trans rfl rfl
  have e5 : opV h .eq (.str [97, 99, 116]) (.str [97, 99, 116]) = some (.bl true) := Eq.trans rfl rfl
  rw [callF_n T d 31 _ h _ B.f31 (B.fz 31 (by omega)) rfl]
  simp only [b31, evE_var, evE_cst, evE_tup, evE_lst, evE_op, evE_neg, evE_not, evE_and, evE_or, evE_ite, evE_sub, evE_slice, evE_call, evE_callK, evE_bm, evE_bf, evE_isi, evEs_nil, evEs_cons, exS_asg, exS_augN, exS_expr, exS_ret, exS_ife, exB_nil', exB_cons', bind_ok', stm_ok', next_nx', next_rt', bind_exc', stm_exc', next_exc', ifO_t, ifO_f, opt_some, varO_some, laidV_int, laidV_bl, laidV_str, laidV_tup, laidV_lst, retO_rt, retO_nx, v_add, v_sub, v_lt, v_le, v_gt, v_ge, v_eqi, v_nei, t_bl, t_int, ofOpt_some', List.getElem?_cons_zero, List.getElem?_cons_succ, List.set_cons_zero, List.set_cons_succ, List.map_cons, List.map_nil, List.cons_append, List.nil_append, List.replicate_succ, List.replicate_zero, bindTg, setSlots, List.length_cons, List.length_nil, Nat.reduceAdd, Nat.reduceSub, Nat.reduceLT, ↓reduceIte, if_true, bf_int, bf_lent, bf_lenl, bf_lena, sub_t, sub_l, sub_a, e0, e1, e2, e3, e4, e5, e]
theorem told_move (d : Nat) (v : Val) (h h' : Heap) (r : Bool) (e : callF T d 17 [v] h = .ok (.bl r) h') : callF T (d + 1) 31 [.str [109, 111, 118, 101], v] h = .ok (.bl r) h' := by
  have e0 : opV h .eq (.str [109, 111, 118, 101]) (.str [108, 111, 99, 107]) = some (.bl false) := Eq.trans rfl rfl
  have e1 : opV h .eq (.str [109, 111, 118, 101]) (.str [115, 116, 97, 116, 101]) = some (.bl false) := Eq.trans rfl rfl
  have e2 : opV h .eq (.str [109, 111, 118, 101]) (.str [111, 112, 101, 110, 105, 110, 103]) = some (.bl false) := Eq.trans rfl rfl
  have e3 : opV h .eq (.str [109, 111, 118, 101]) (.str [115, 112, 108, 105, 99, 101]) = some (.bl false) := Eq.trans rfl rfl
  have e4 : opV h .eq (.str [109, 111, 118, 101]) (.str [116, 104, 105, 110, 103]) = some (.bl false) := Eq.trans rfl rfl
  have e5 : opV h .eq (.str [109, 111, 118, 101]) (.str [97, 99, 116]) = some (.bl false) := Eq.trans rfl rfl
  have e6 : opV h .eq (.str [109, 111, 118, 101]) (.str [109, 111, 118, 101]) = some (.bl true) := Eq.trans rfl rfl
  rw [callF_n T d 31 _ h _ B.f31 (B.fz 31 (by omega)) rfl]
  simp only [b31, evE_var, evE_cst, evE_tup, evE_lst, evE_op, evE_neg, evE_not, evE_and, evE_or, evE_ite, evE_sub, evE_slice, evE_call, evE_callK, evE_bm, evE_bf, evE_isi, evEs_nil, evEs_cons, exS_asg, exS_augN, exS_expr, exS_ret, exS_ife, exB_nil', exB_cons', bind_ok', stm_ok', next_nx', next_rt', bind_exc', stm_exc', next_exc', ifO_t, ifO_f, opt_some, varO_some, laidV_int, laidV_bl, laidV_str, laidV_tup, laidV_lst, retO_rt, retO_nx, v_add, v_sub, v_lt, v_le, v_gt, v_ge, v_eqi, v_nei, t_bl, t_int, ofOpt_some', List.getElem?_cons_zero, List.getElem?_cons_succ, List.set_cons_zero, List.set_cons_succ, List.map_cons, List.map_nil, List.cons_append, List.nil_append, List.replicate_succ, List.replicate_zero, bindTg, setSlots, List.length_cons, List.length_nil, Nat.reduceAdd, Nat.reduceSub, Nat.reduceLT, ↓reduceIte, if_true, bf_int, bf_lent, bf_lenl, bf_lena, sub_t, sub_l, sub_a, e0, e1, e2, e3, e4, e5, e6, e]
theorem told_step (d : Nat) (v : Val) (h h' : Heap) (r : Bool) (e : callF T d 18 [v] h = .ok (.bl r) h') : callF T (d + 1) 31 [.str [115, 116, 101, 112], v] h = .ok (.bl r) h' := by
  have e0 : opV h .eq (.str [115, 116, 101, 112]) (.str [108, 111, 99, 107]) = some (.bl false) := Eq.trans rfl rfl
  have e1 : opV h .eq (.str [115, 116, 101, 112]) (.str [115, 116, 97, 116, 101]) = some (.bl false) := Eq.trans rfl rfl
  have e2 : opV h .eq (.str [115, 116, 101, 112]) (.str [111, 112, 101, 110, 105, 110, 103]) = some (.bl false) := Eq.trans rfl rfl
  have e3 : opV h .eq (.str [115, 116, 101, 112]) (.str [115, 112, 108, 105, 99, 101]) = some (.bl false) := Eq.trans rfl rfl
  have e4 : opV h .eq (.str [115, 116, 101, 112]) (.str [116, 104, 105, 110, 103]) = some (.bl false) := Eq.trans rfl rfl
  have e5 : opV h .eq (.str [115, 116, 101, 112]) (.str [97, 99, 116]) = some (.bl false) := Eq.trans rfl rfl
  have e6 : opV h .eq (.str [115, 116, 101, 112]) (.str [109, 111, 118, 101]) = some (.bl false) := Eq.trans rfl rfl
  have e7 : opV h .eq (.str [115, 116, 101, 112]) (.str [115, 116, 101, 112]) = some (.bl true) := Eq.trans rfl rfl
  rw [callF_n T d 31 _ h _ B.f31 (B.fz 31 (by omega)) rfl]
  simp only [b31, evE_var, evE_cst, evE_tup, evE_lst, evE_op, evE_neg, evE_not, evE_and, evE_or, evE_ite, evE_sub, evE_slice, evE_call, evE_callK, evE_bm, evE_bf, evE_isi, evEs_nil, evEs_cons, exS_asg, exS_augN, exS_expr, exS_ret, exS_ife, exB_nil', exB_cons', bind_ok', stm_ok', next_nx', next_rt', bind_exc', stm_exc', next_exc', ifO_t, ifO_f, opt_some, varO_some, laidV_int, laidV_bl, laidV_str, laidV_tup, laidV_lst, retO_rt, retO_nx, v_add, v_sub, v_lt, v_le, v_gt, v_ge, v_eqi, v_nei, t_bl, t_int, ofOpt_some', List.getElem?_cons_zero, List.getElem?_cons_succ, List.set_cons_zero, List.set_cons_succ, List.map_cons, List.map_nil, List.cons_append, List.nil_append, List.replicate_succ, List.replicate_zero, bindTg, setSlots, List.length_cons, List.length_nil, Nat.reduceAdd, Nat.reduceSub, Nat.reduceLT, ↓reduceIte, if_true, bf_int, bf_lent, bf_lenl, bf_lena, sub_t, sub_l, sub_a, e0, e1, e2, e3, e4, e5, e6, e7, e]
theorem told_word (d : Nat) (v : Val) (h h' : Heap) (r : Bool) (e : callF T d 19 [v] h = .ok (.bl r) h') : callF T (d + 1) 31 [.str [119, 111, 114, 100], v] h = .ok (.bl r) h' := by
  have e0 : opV h .eq (.str [119, 111, 114, 100]) (.str [108, 111, 99, 107]) = some (.bl false) := Eq.trans rfl rfl
  have e1 : opV h .eq (.str [119, 111, 114, 100]) (.str [115, 116, 97, 116, 101]) = some (.bl false) := Eq.trans rfl rfl
  have e2 : opV h .eq (.str [119, 111, 114, 100]) (.str [111, 112, 101, 110, 105, 110, 103]) = some (.bl false) := Eq.trans rfl rfl
  have e3 : opV h .eq (.str [119, 111, 114, 100]) (.str [115, 112, 108, 105, 99, 101]) = some (.bl false) := Eq.trans rfl rfl
  have e4 : opV h .eq (.str [119, 111, 114, 100]) (.str [116, 104, 105, 110, 103]) = some (.bl false) := Eq.trans rfl rfl
  have e5 : opV h .eq (.str [119, 111, 114, 100]) (.str [97, 99, 116]) = some (.bl false) := Eq.trans rfl rfl
  have e6 : opV h .eq (.str [119, 111, 114, 100]) (.str [109, 111, 118, 101]) = some (.bl false) := Eq.trans rfl rfl
  have e7 : opV h .eq (.str [119, 111, 114, 100]) (.str [115, 116, 101, 112]) = some (.bl false) := Eq.trans rfl rfl
  have e8 : opV h .eq (.str [119, 111, 114, 100]) (.str [119, 111, 114, 100]) = some (.bl true) := Eq.trans rfl rfl
  rw [callF_n T d 31 _ h _ B.f31 (B.fz 31 (by omega)) rfl]
  simp only [b31, evE_var, evE_cst, evE_tup, evE_lst, evE_op, evE_neg, evE_not, evE_and, evE_or, evE_ite, evE_sub, evE_slice, evE_call, evE_callK, evE_bm, evE_bf, evE_isi, evEs_nil, evEs_cons, exS_asg, exS_augN, exS_expr, exS_ret, exS_ife, exB_nil', exB_cons', bind_ok', stm_ok', next_nx', next_rt', bind_exc', stm_exc', next_exc', ifO_t, ifO_f, opt_some, varO_some, laidV_int, laidV_bl, laidV_str, laidV_tup, laidV_lst, retO_rt, retO_nx, v_add, v_sub, v_lt, v_le, v_gt, v_ge, v_eqi, v_nei, t_bl, t_int, ofOpt_some', List.getElem?_cons_zero, List.getElem?_cons_succ, List.set_cons_zero, List.set_cons_succ, List.map_cons, List.map_nil, List.cons_append, List.nil_append, List.replicate_succ, List.replicate_zero, bindTg, setSlots, List.length_cons, List.length_nil, Nat.reduceAdd, Nat.reduceSub, Nat.reduceLT, ↓reduceIte, if_true, bf_int, bf_lent, bf_lenl, bf_lena, sub_t, sub_l, sub_a, e0, e1, e2, e3, e4, e5, e6, e7, e8, e]
theorem told_wish (d : Nat) (v : Val) (h h' : Heap) (r : Bool) (e : callF T d 20 [v] h = .ok (.bl r) h') : callF T (d + 1) 31 [.str [119, 105, 115, 104], v] h = .ok (.bl r) h' := by
  have e0 : opV h .eq (.str [119, 105, 115, 104]) (.str [108, 111, 99, 107]) = some (.bl false) := Eq.trans rfl rfl
  have e1 : opV h .eq (.str [119, 105, 115, 104]) (.str [115, 116, 97, 116, 101]) = some (.bl false) := Eq.trans rfl rfl
  have e2 : opV h .eq (.str [119, 105, 115, 104]) (.str [111, 112, 101, 110, 105, 110, 103]) = some (.bl false) := Eq.trans rfl rfl
  have e3 : opV h .eq (.str [119, 105, 115, 104]) (.str [115, 112, 108, 105, 99, 101]) = some (.bl false) := Eq.trans rfl rfl
  have e4 : opV h .eq (.str [119, 105, 115, 104]) (.str [116, 104, 105, 110, 103]) = some (.bl false) := Eq.trans rfl rfl
  have e5 : opV h .eq (.str [119, 105, 115, 104]) (.str [97, 99, 116]) = some (.bl false) := Eq.trans rfl rfl
  have e6 : opV h .eq (.str [119, 105, 115, 104]) (.str [109, 111, 118, 101]) = some (.bl false) := Eq.trans rfl rfl
  have e7 : opV h .eq (.str [119, 105, 115, 104]) (.str [115, 116, 101, 112]) = some (.bl false) := Eq.trans rfl rfl
  have e8 : opV h .eq (.str [119, 105, 115, 104]) (.str [119, 111, 114, 100]) = some (.bl false) := Eq.trans rfl rfl
  have e9 : opV h .eq (.str [119, 105, 115, 104]) (.str [119, 105, 115, 104]) = some (.bl true) := Eq.trans rfl rfl
  rw [callF_n T d 31 _ h _ B.f31 (B.fz 31 (by omega)) rfl]
  simp only [b31, evE_var, evE_cst, evE_tup, evE_lst, evE_op, evE_neg, evE_not, evE_and, evE_or, evE_ite, evE_sub, evE_slice, evE_call, evE_callK, evE_bm, evE_bf, evE_isi, evEs_nil, evEs_cons, exS_asg, exS_augN, exS_expr, exS_ret, exS_ife, exB_nil', exB_cons', bind_ok', stm_ok', next_nx', next_rt', bind_exc', stm_exc', next_exc', ifO_t, ifO_f, opt_some, varO_some, laidV_int, laidV_bl, laidV_str, laidV_tup, laidV_lst, retO_rt, retO_nx, v_add, v_sub, v_lt, v_le, v_gt, v_ge, v_eqi, v_nei, t_bl, t_int, ofOpt_some', List.getElem?_cons_zero, List.getElem?_cons_succ, List.set_cons_zero, List.set_cons_succ, List.map_cons, List.map_nil, List.cons_append, List.nil_append, List.replicate_succ, List.replicate_zero, bindTg, setSlots, List.length_cons, List.length_nil, Nat.reduceAdd, Nat.reduceSub, Nat.reduceLT, ↓reduceIte, if_true, bf_int, bf_lent, bf_lenl, bf_lena, sub_t, sub_l, sub_a, e0, e1, e2, e3, e4, e5, e6, e7, e8, e9, e]
theorem told_deed (d : Nat) (v : Val) (h h' : Heap) (r : Bool) (e : callF T d 21 [v] h = .ok (.bl r) h') : callF T (d + 1) 31 [.str [100, 101, 101, 100], v] h = .ok (.bl r) h' := by
  have e0 : opV h .eq (.str [100, 101, 101, 100]) (.str [108, 111, 99, 107]) = some (.bl false) := Eq.trans rfl rfl
  have e1 : opV h .eq (.str [100, 101, 101, 100]) (.str [115, 116, 97, 116, 101]) = some (.bl false) := Eq.trans rfl rfl
  have e2 : opV h .eq (.str [100, 101, 101, 100]) (.str [111, 112, 101, 110, 105, 110, 103]) = some (.bl false) := Eq.trans rfl rfl
  have e3 : opV h .eq (.str [100, 101, 101, 100]) (.str [115, 112, 108, 105, 99, 101]) = some (.bl false) := Eq.trans rfl rfl
  have e4 : opV h .eq (.str [100, 101, 101, 100]) (.str [116, 104, 105, 110, 103]) = some (.bl false) := Eq.trans rfl rfl
  have e5 : opV h .eq (.str [100, 101, 101, 100]) (.str [97, 99, 116]) = some (.bl false) := Eq.trans rfl rfl
  have e6 : opV h .eq (.str [100, 101, 101, 100]) (.str [109, 111, 118, 101]) = some (.bl false) := Eq.trans rfl rfl
  have e7 : opV h .eq (.str [100, 101, 101, 100]) (.str [115, 116, 101, 112]) = some (.bl false) := Eq.trans rfl rfl
  have e8 : opV h .eq (.str [100, 101, 101, 100]) (.str [119, 111, 114, 100]) = some (.bl false) := Eq.trans rfl rfl
  have e9 : opV h .eq (.str [100, 101, 101, 100]) (.str [119, 105, 115, 104]) = some (.bl false) := Eq.trans rfl rfl
  rw [callF_n T d 31 _ h _ B.f31 (B.fz 31 (by omega)) rfl]
  simp only [b31, evE_var, evE_cst, evE_tup, evE_lst, evE_op, evE_neg, evE_not, evE_and, evE_or, evE_ite, evE_sub, evE_slice, evE_call, evE_callK, evE_bm, evE_bf, evE_isi, evEs_nil, evEs_cons, exS_asg, exS_augN, exS_expr, exS_ret, exS_ife, exB_nil', exB_cons', bind_ok', stm_ok', next_nx', next_rt', bind_exc', stm_exc', next_exc', ifO_t, ifO_f, opt_some, varO_some, laidV_int, laidV_bl, laidV_str, laidV_tup, laidV_lst, retO_rt, retO_nx, v_add, v_sub, v_lt, v_le, v_gt, v_ge, v_eqi, v_nei, t_bl, t_int, ofOpt_some', List.getElem?_cons_zero, List.getElem?_cons_succ, List.set_cons_zero, List.set_cons_succ, List.map_cons, List.map_nil, List.cons_append, List.nil_append, List.replicate_succ, List.replicate_zero, bindTg, setSlots, List.length_cons, List.length_nil, Nat.reduceAdd, Nat.reduceSub, Nat.reduceLT, ↓reduceIte, if_true, bf_int, bf_lent, bf_lenl, bf_lena, sub_t, sub_l, sub_a, e0, e1, e2, e3, e4, e5, e6, e7, e8, e9, e]
omit B in
theorem v_eqb (h : Heap) (a b : Bool) : opV h .eq (.bl a) (.bl b) = some (.bl (a == b)) := Eq.trans rfl rfl
theorem says (d : Nat) (a b : Bool) (h : Heap) : callF T (d + 1) 23 [.bl a, .bl b] h = .ok (.bl (a == b)) h := by
  rw [callF_n T d 23 _ h _ B.f23 (B.fz 23 (by omega)) rfl]
  simp only [b23, evE_var, evE_cst, evE_tup, evE_lst, evE_op, evE_neg, evE_not, evE_and, evE_or, evE_ite, evE_sub, evE_slice, evE_call, evE_callK, evE_bm, evE_bf, evE_isi, evEs_nil, evEs_cons, exS_asg, exS_augN, exS_expr, exS_ret, exS_ife, exB_nil', exB_cons', bind_ok', stm_ok', next_nx', next_rt', bind_exc', stm_exc', next_exc', ifO_t, ifO_f, opt_some, varO_some, laidV_int, laidV_bl, laidV_str, laidV_tup, laidV_lst, retO_rt, retO_nx, v_add, v_sub, v_lt, v_le, v_gt, v_ge, v_eqi, v_nei, t_bl, t_int, ofOpt_some', List.getElem?_cons_zero, List.getElem?_cons_succ, List.set_cons_zero, List.set_cons_succ, List.map_cons, List.map_nil, List.cons_append, List.nil_append, List.replicate_succ, List.replicate_zero, bindTg, setSlots, List.length_cons, List.length_nil, Nat.reduceAdd, Nat.reduceSub, Nat.reduceLT, ↓reduceIte, if_true, bf_int, bf_lent, bf_lenl, bf_lena, sub_t, sub_l, sub_a, isiV, Option.map_some, v_eqb]
def kinds : List Kd := [.lock, .state, .opening, .splice, .thing, .act, .move, .step, .word, .wish, .deed]
theorem told (d : Nat) (K : Kd) (hK : K ∈ kinds) (v : Val) (h h' : Heap) (r : Bool) (e : callF T d (fnOf K) [v] h = .ok (.bl r) h') : callF T (d + 1) 31 [.str (nm K), v] h = .ok (.bl r) h' := by
  cases K with
  | lock => exact told_lock B d v h h' r e
  | state => exact told_state B d v h h' r e
  | opening => exact told_opening B d v h h' r e
  | splice => exact told_splice B d v h h' r e
  | thing => exact told_thing B d v h h' r e
  | act => exact told_act B d v h h' r e
  | move => exact told_move B d v h h' r e
  | step => exact told_step B d v h h' r e
  | word => exact told_word B d v h h' r e
  | wish => exact told_wish B d v h h' r e
  | deed => exact told_deed B d v h h' r e
  | n => simp [kinds] at hK
  | a => simp [kinds] at hK
  | h => simp [kinds] at hK
  | f => simp [kinds] at hK
  | b => simp [kinds] at hK
  | hands => simp [kinds] at hK
  | locks => simp [kinds] at hK
def kV : List Val := kinds.map fun k => .str (nm k)
def inB : List S := [.asg (.name 6) (.op .fdiv (.bf .int false [(.call 22 [(.var 0), (.op .add (.op .mul (.cst (.int 2)) (.var 2)) (.cst (.int 1)))])]) (.op .add (.cst (.int 1)) (.op .mul (.cst (.int 11)) (.var 5)))), .ife (.not (.call 23 [(.call 31 [(.sub (.var 1) (.var 2)), (.call 30 [(.sub (.var 1) (.var 2)), (.var 4), (.var 6)])]), (.cst (.bl false))])) [.ret (.cst (.bl false))] []]
def outB : List S := [.asg (.name 3) (.call 22 [(.var 0), (.op .mul (.cst (.int 2)) (.var 2))]), .asg (.name 4) (.call 28 [(.sub (.var 1) (.var 2)), (.var 3)]), .ife (.not (.call 23 [(.call 31 [(.sub (.var 1) (.var 2)), (.var 4)]), (.cst (.bl true))])) [.ret (.cst (.bl false))] [], .loop (.name 5) 2 [(.cst (.int 2))] inB]
theorem one_in (m : Nat) (xs : List Int) (k : Nat) (K : Kd) (hK : kinds[k]? = some K) (t : Val) (ht : ok 7 K t = true) (h : Heap) (j : Nat) (hj : j ≤ 10) (a b c : Option Val) : ∃ b' c', exB T (callF T (m + 29)) inB [some (.arr (xs.map .int)), some (.lst kV), some (.int (k : Int)), a, some t, some (.int (j : Int)), c] h = .nx [some (.arr (xs.map .int)), some (.lst kV), some (.int (k : Int)), a, some t, b', c'] h := by
  have hr : rank K < 7 := by cases K <;> decide
  have hm := List.mem_of_getElem? hK
  obtain ⟨i, e1⟩ := number B (m + 28) xs (2 * k + 1) h
  have e1 : callF T (m + 29) 22 [.arr (xs.map .int), .int (2 * (k : Int) + 1)] h = .ok (.int i) h := e1
  have mk : opV h .mul (.int 2) (.int (k : Int)) = some (.int (2 * (k : Int))) := v_mul1 h (by decide)
  have mj : opV h .mul (.int 11) (.int (j : Int)) = some (.int (11 * (j : Int))) := v_mul1 h (by decide)
  have fj : opV h .fdiv (.int i) (.int (1 + 11 * (j : Int))) = some (.int (i.fdiv (1 + 11 * (j : Int)))) := v_fdiv h ⟨by omega, by
    have : bound30 = 2 ^ 30 := rfl
    omega⟩
  have lk : at_ kV (k : Int) = some (.str (nm K)) := by rw [at_nat]; unfold kV; rw [List.getElem?_map, hK]; rfl
  obtain ⟨w, ew, pw, ow⟩ := spoil B 7 K hr (m + 29) (by omega) t (i.fdiv (1 + 11 * (j : Int))) h ht
  have ei := is_all B 7 K hr (m + 28) (by omega) w pw h
  rw [ow] at ei
  have et := told B (m + 28) K hm w h h false ei
  have es := says B (m + 28) false false h
  have ff : (false == false) = true := rfl
  rw [ff] at es
  refine ⟨some (.int (j : Int)), some (.int (i.fdiv (1 + 11 * (j : Int)))), ?_⟩
  simp only [inB, evE_var, evE_cst, evE_tup, evE_lst, evE_op, evE_neg, evE_not, evE_and, evE_or, evE_ite, evE_sub, evE_slice, evE_call, evE_callK, evE_bm, evE_bf, evE_isi, evEs_nil, evEs_cons, exS_asg, exS_augN, exS_expr, exS_ret, exS_ife, exB_nil', exB_cons', bind_ok', stm_ok', next_nx', next_rt', bind_exc', stm_exc', next_exc', ifO_t, ifO_f, opt_some, varO_some, laidV_int, laidV_bl, laidV_str, laidV_tup, laidV_lst, retO_rt, retO_nx, v_add, v_sub, v_lt, v_le, v_gt, v_ge, v_eqi, v_nei, t_bl, t_int, ofOpt_some', List.getElem?_cons_zero, List.getElem?_cons_succ, List.set_cons_zero, List.set_cons_succ, List.map_cons, List.map_nil, List.cons_append, List.nil_append, List.replicate_succ, List.replicate_zero, bindTg, setSlots, List.length_cons, List.length_nil, Nat.reduceAdd, Nat.reduceSub, Nat.reduceLT, ↓reduceIte, if_true, bf_int, bf_lent, bf_lenl, bf_lena, sub_t, sub_l, sub_a, mk, e1, mj, fj, lk, ew, et, es, Bool.not_true]
theorem in_loop (m : Nat) (xs : List Int) (k : Nat) (K : Kd) (hK : kinds[k]? = some K) (t : Val) (ht : ok 7 K t = true) (h h0 : Heap) (a : Option Val) : ∀ (n j : Nat) (b c : Option Val), j + n ≤ 10 → ∃ b' c', forL (fun h' => stays h0 h' [.int 2]) (fun v ρ h => opt (bindTg ρ (.name 5) v) (fun ρ' => exB T (callF T (m + 29)) inB ρ' h) .bad) (upto (j : Int) n) [some (.arr (xs.map .int)), some (.lst kV), some (.int (k : Int)), a, some t, b, c] h
    = .nx [some (.arr (xs.map .int)), some (.lst kV), some (.int (k : Int)), a, some t, b', c'] h := by
  intro n
  induction n with
  | zero => exact fun j b c _ => ⟨b, c, forL_nil⟩
  | succ n ih =>
    intro j b c hj
    obtain ⟨b1, c1, e1⟩ := one_in B m xs k K hK t ht h j (by omega) a b c
    obtain ⟨b2, c2, e2⟩ := ih (j + 1) b1 c1 (by omega)
    refine ⟨b2, c2, ?_⟩
    have eu : upto (j : Int) (n + 1) = .int (j : Int) :: upto ((j + 1 : Nat) : Int) n := rfl
    rw [eu, forL_nx (ρ' := [some (.arr (xs.map .int)), some (.lst kV), some (.int (k : Int)), a, some t, b1, c1]) (h' := h) ?_ stays_int, e2]
    exact e1
theorem one_out (m : Nat) (xs : List Int) (k : Nat) (K : Kd) (hK : kinds[k]? = some K) (h : Heap) (a b c d : Option Val) : ∃ a' b' c' d', exB T (callF T (m + 29)) outB [some (.arr (xs.map .int)), some (.lst kV), some (.int (k : Int)), a, b, c, d] h = .nx [some (.arr (xs.map .int)), some (.lst kV), some (.int (k : Int)), a', b', c', d'] h := by
  have hr : rank K < 7 := by cases K <;> decide
  have hm := List.mem_of_getElem? hK
  obtain ⟨i, e1⟩ := number B (m + 28) xs (2 * k) h
  have e1 : callF T (m + 29) 22 [.arr (xs.map .int), .int (2 * (k : Int))] h = .ok (.int i) h := e1
  have mk : opV h .mul (.int 2) (.int (k : Int)) = some (.int (2 * (k : Int))) := v_mul1 h (by decide)
  have lk : at_ kV (k : Int) = some (.str (nm K)) := by rw [at_nat]; unfold kV; rw [List.getElem?_map, hK]; rfl
  obtain ⟨t, em, ot⟩ := make B 7 K hr (m + 29) (by omega) i h
  have ei := is_all B 7 K hr (m + 28) (by omega) t (ok_pl 7 K t ot) h
  rw [ot] at ei
  have et := told B (m + 28) K hm t h h true ei
  have es := says B (m + 28) true true h
  have ff : (true == true) = true := rfl
  rw [ff] at es
  obtain ⟨c1, d1, el⟩ := in_loop B m xs k K hK t ot h h (some (.int i)) 2 0 c d (by omega)
  have r2 : walkV h 2 [.int 2] = some (upto 0 2) := rng_ok (n := 2) (by decide) _
  have el := loop_of (T := T) (F := callF T (m + 29)) (tg := .name 5) (w := 2) (it := [.cst (.int 2)]) (ρ := [some (.arr (xs.map .int)), some (.lst kV), some (.int (k : Int)), some (.int i), some t, c, d]) (h := h) (ws := [.int 2]) (items := upto 0 2) (by decide) (by simp only [evE_var, evE_cst, evE_tup, evE_lst, evE_op, evE_neg, evE_not, evE_and, evE_or, evE_ite, evE_sub, evE_slice, evE_call, evE_callK, evE_bm, evE_bf, evE_isi, evEs_nil, evEs_cons, exS_asg, exS_augN, exS_expr, exS_ret, exS_ife, exB_nil', exB_cons', bind_ok', stm_ok', next_nx', next_rt', bind_exc', stm_exc', next_exc', ifO_t, ifO_f, opt_some, varO_some, laidV_int, laidV_bl, laidV_str, laidV_tup, laidV_lst, retO_rt, retO_nx, v_add, v_sub, v_lt, v_le, v_gt, v_ge, v_eqi, v_nei, t_bl, t_int, ofOpt_some', List.getElem?_cons_zero, List.getElem?_cons_succ, List.set_cons_zero, List.set_cons_succ, List.map_cons, List.map_nil, List.cons_append, List.nil_append, List.replicate_succ, List.replicate_zero, bindTg, setSlots, List.length_cons, List.length_nil, Nat.reduceAdd, Nat.reduceSub, Nat.reduceLT, ↓reduceIte, if_true, bf_int, bf_lent, bf_lenl, bf_lena, sub_t, sub_l, sub_a]) r2 el
  refine ⟨some (.int i), some t, c1, d1, ?_⟩
  simp only [outB, evE_var, evE_cst, evE_tup, evE_lst, evE_op, evE_neg, evE_not, evE_and, evE_or, evE_ite, evE_sub, evE_slice, evE_call, evE_callK, evE_bm, evE_bf, evE_isi, evEs_nil, evEs_cons, exS_asg, exS_augN, exS_expr, exS_ret, exS_ife, exB_nil', exB_cons', bind_ok', stm_ok', next_nx', next_rt', bind_exc', stm_exc', next_exc', ifO_t, ifO_f, opt_some, varO_some, laidV_int, laidV_bl, laidV_str, laidV_tup, laidV_lst, retO_rt, retO_nx, v_add, v_sub, v_lt, v_le, v_gt, v_ge, v_eqi, v_nei, t_bl, t_int, ofOpt_some', List.getElem?_cons_zero, List.getElem?_cons_succ, List.set_cons_zero, List.set_cons_succ, List.map_cons, List.map_nil, List.cons_append, List.nil_append, List.replicate_succ, List.replicate_zero, bindTg, setSlots, List.length_cons, List.length_nil, Nat.reduceAdd, Nat.reduceSub, Nat.reduceLT, ↓reduceIte, if_true, bf_int, bf_lent, bf_lenl, bf_lena, sub_t, sub_l, sub_a, mk, e1, lk, em, et, es, Bool.not_true, el]
theorem out_loop (m : Nat) (xs : List Int) (h h0 : Heap) : ∀ (n j : Nat) (z a b c d : Option Val), j + n ≤ 11 → ∃ z' a' b' c' d', forL (fun h' => stays h0 h' [.int 11]) (fun v ρ h => opt (bindTg ρ (.name 2) v) (fun ρ' => exB T (callF T (m + 29)) outB ρ' h) .bad) (upto (j : Int) n) [some (.arr (xs.map .int)), some (.lst kV), z, a, b, c, d] h
    = .nx [some (.arr (xs.map .int)), some (.lst kV), z', a', b', c', d'] h := by
  intro n
  induction n with
  | zero => exact fun j z a b c d _ => ⟨z, a, b, c, d, forL_nil⟩
  | succ n ih =>
    intro j z a b c d hj
    obtain ⟨K, hK⟩ : ∃ K, kinds[j]? = some K := ⟨_, List.getElem?_eq_getElem (show j < kinds.length by show j < 11; omega)⟩
    obtain ⟨a1, b1, c1, d1, e1⟩ := one_out B m xs j K hK h a b c d
    obtain ⟨z2, a2, b2, c2, d2, e2⟩ := ih (j + 1) (some (.int (j : Int))) a1 b1 c1 d1 (by omega)
    refine ⟨z2, a2, b2, c2, d2, ?_⟩
    have eu : upto (j : Int) (n + 1) = .int (j : Int) :: upto ((j + 1 : Nat) : Int) n := rfl
    rw [eu, forL_nx (ρ' := [some (.arr (xs.map .int)), some (.lst kV), some (.int (j : Int)), a1, b1, c1, d1]) (h' := h) ?_ stays_int, e2]
    exact e1
theorem law (m : Nat) (xs : List Int) : ∃ h', callF T (m + 30) 32 [.arr (xs.map .int)] Heap.empty = .ok (.bl true) h' := by
  obtain ⟨z, a, b, c, d, el⟩ := out_loop B m xs Heap.empty Heap.empty 11 0 none none none none none (by omega)
  refine ⟨Heap.empty, ?_⟩
  have r11 : walkV Heap.empty 2 [.int 11] = some (upto 0 11) := rng_ok (n := 11) (by decide) _
  have el := loop_of (T := T) (F := callF T (m + 29)) (tg := .name 2) (w := 2) (it := [.bf .len false [.var 1]]) (ρ := [some (.arr (xs.map .int)), some (.lst kV), none, none, none, none, none]) (h := Heap.empty) (ws := [.int 11]) (items := upto 0 11) (by decide) (by
    have : bfV Heap.empty .len [.lst kV] = some (.int 11) := rfl
    simp only [evEs_cons, evEs_nil, evE_bf, evE_var, List.getElem?_cons_zero, List.getElem?_cons_succ, varO_some, bind_ok', this, laidV_int]) r11 el
  rw [callF_n T (m + 29) 32 _ Heap.empty _ B.f32 (B.fz 32 (by omega)) rfl]
  have ek : evE T (callF T (m + 29)) (.lst false (kinds.map fun k => .cst (.str (nm k)))) [some (.arr (xs.map .int)), none, none, none, none, none, none] Heap.empty = .ok (.lst kV) Heap.empty := cval_ok _ _ rfl
  have eb : b32 = [.asg (.name 1) (.lst false (kinds.map fun k => .cst (.str (nm k)))), .loop (.name 2) 2 [.bf .len false [.var 1]] outB, .ret (.cst (.bl true))] := rfl
  rw [eb]
  generalize kinds.map (fun k => E.cst (.str (nm k))) = es at *
  simp only [evE_var, evE_cst, evE_tup, evE_lst, evE_op, evE_neg, evE_not, evE_and, evE_or, evE_ite, evE_sub, evE_slice, evE_call, evE_callK, evE_bm, evE_bf, evE_isi, evEs_nil, evEs_cons, exS_asg, exS_augN, exS_expr, exS_ret, exS_ife, exB_nil', exB_cons', bind_ok', stm_ok', next_nx', next_rt', bind_exc', stm_exc', next_exc', ifO_t, ifO_f, opt_some, varO_some, laidV_int, laidV_bl, laidV_str, laidV_tup, laidV_lst, retO_rt, retO_nx, v_add, v_sub, v_lt, v_le, v_gt, v_ge, v_eqi, v_nei, t_bl, t_int, ofOpt_some', List.getElem?_cons_zero, List.getElem?_cons_succ, List.set_cons_zero, List.set_cons_succ, List.map_cons, List.map_nil, List.cons_append, List.nil_append, List.replicate_succ, List.replicate_zero, bindTg, setSlots, List.length_cons, List.length_nil, Nat.reduceAdd, Nat.reduceSub, Nat.reduceLT, ↓reduceIte, if_true, bf_int, bf_lent, bf_lenl, bf_lena, sub_t, sub_l, sub_a, ek, el]
end
end K72

namespace Tx
open PySem PySem.Spec PyProof.Rows L2 MP
abbrev R : PySem.W.OpenRow := PySem.W.OpenLaw.row PySem.Challenge.rw_turnpike_k72_shapes
def top (i : Nat) : Stmt := PySem.Challenge.pw_turnpike_k72_shapes.main.body.getD i (.Pass ⟨0, 0, 0, 0⟩)
def names0 : List PySem.Str := ["MOST_NUMBER", "MOST_AMOUNT", "MOST_HEIGHT", "MOST_FREE", "MOST_HANDS", "MOST_LOCKS", "MOST_MOVES", "is_whole", "is_number", "is_amount", "is_height", "is_free", "is_flag", "is_row", "is_list", "is_named", "is_lock", "is_locks", "is_state", "is_opening"]
def names1 : List PySem.Str := ["is_splice", "is_act", "is_hands", "is_thing", "is_move", "is_step", "is_word", "is_wish", "is_deed", "ACTS", "MOVES", "WORDS", "WISHES", "DEEDS", "_law_number", "_law_says", "_law_items", "_law_rows", "_law_most", "_law_row_of"]
def names2 : List PySem.Str := ["_law_make", "_law_spoilt_atom", "_law_spoilt", "_law_told"]
def names : List PySem.Str := names0 ++ names1 ++ names2
def d0 : He.DefD := ⟨("is_whole", none), "is_whole", "is_whole", defArgs (top 8), defBody (top 8), defScope (top 8), [], []⟩
def m0 : DM := ⟨d0, ["tree", "least", "most"], ["tree", "least", "most"], false, true, false, []⟩
theorem ok0 : m0.Ok := ⟨fun _ K fd F => F.bindsN fun _ _ _ _ _ _ us hl => match us, hl with | [_, _, _], _ => rfl, fun n ks b e => (by cases e), by decide +kernel⟩
def d1 : He.DefD := ⟨("is_number", none), "is_number", "is_number", defArgs (top 9), defBody (top 9), defScope (top 9), [], []⟩
def m1 : DM := ⟨d1, ["tree"], ["tree"], false, true, false, []⟩
theorem ok1 : m1.Ok := ⟨fun _ K fd F => F.bindsN fun _ _ _ _ _ _ us hl => match us, hl with | [_], _ => rfl, fun n ks b e => (by cases e), by decide +kernel⟩
def d2 : He.DefD := ⟨("is_amount", none), "is_amount", "is_amount", defArgs (top 10), defBody (top 10), defScope (top 10), [], []⟩
def m2 : DM := ⟨d2, ["tree"], ["tree"], false, true, false, []⟩
theorem ok2 : m2.Ok := ⟨fun _ K fd F => F.bindsN fun _ _ _ _ _ _ us hl => match us, hl with | [_], _ => rfl, fun n ks b e => (by cases e), by decide +kernel⟩
def d3 : He.DefD := ⟨("is_height", none), "is_height", "is_height", defArgs (top 11), defBody (top 11), defScope (top 11), [], []⟩
def m3 : DM := ⟨d3, ["tree"], ["tree"], false, true, false, []⟩
theorem ok3 : m3.Ok := ⟨fun _ K fd F => F.bindsN fun _ _ _ _ _ _ us hl => match us, hl with | [_], _ => rfl, fun n ks b e => (by cases e), by decide +kernel⟩
def d4 : He.DefD := ⟨("is_free", none), "is_free", "is_free", defArgs (top 12), defBody (top 12), defScope (top 12), [], []⟩
def m4 : DM := ⟨d4, ["tree"], ["tree"], false, true, false, []⟩
theorem ok4 : m4.Ok := ⟨fun _ K fd F => F.bindsN fun _ _ _ _ _ _ us hl => match us, hl with | [_], _ => rfl, fun n ks b e => (by cases e), by decide +kernel⟩
def d5 : He.DefD := ⟨("is_flag", none), "is_flag", "is_flag", defArgs (top 13), defBody (top 13), defScope (top 13), [], []⟩
def m5 : DM := ⟨d5, ["tree"], ["tree"], false, true, false, []⟩
theorem ok5 : m5.Ok := ⟨fun _ K fd F => F.bindsN fun _ _ _ _ _ _ us hl => match us, hl with | [_], _ => rfl, fun n ks b e => (by cases e), by decide +kernel⟩
def d6 : He.DefD := ⟨("is_row", none), "is_row", "is_row", defArgs (top 14), defBody (top 14), defScope (top 14), [], []⟩
def m6 : DM := ⟨d6, ["tree", "tests", "test", "item"], ["tree", "tests"], false, true, false, []⟩
theorem ok6 : m6.Ok := ⟨fun _ K fd F => F.bindsN fun _ _ _ _ _ _ us hl => match us, hl with | [_, _], _ => rfl, fun n ks b e => (by cases e), by decide +kernel⟩
def d7 : He.DefD := ⟨("is_list", none), "is_list", "is_list", defArgs (top 15), defBody (top 15), defScope (top 15), [], []⟩
def m7 : DM := ⟨d7, ["tree", "test", "most", "item"], ["tree", "test", "most"], false, true, false, []⟩
theorem ok7 : m7.Ok := ⟨fun _ K fd F => F.bindsN fun _ _ _ _ _ _ us hl => match us, hl with | [_, _, _], _ => rfl, fun n ks b e => (by cases e), by decide +kernel⟩
def d8 : He.DefD := ⟨("is_named", none), "is_named", "is_named", defArgs (top 16), defBody (top 16), defScope (top 16), [], []⟩
def m8 : DM := ⟨d8, ["tree"], ["tree"], false, true, false, []⟩
theorem ok8 : m8.Ok := ⟨fun _ K fd F => F.bindsN fun _ _ _ _ _ _ us hl => match us, hl with | [_], _ => rfl, fun n ks b e => (by cases e), by decide +kernel⟩
def d9 : He.DefD := ⟨("is_lock", none), "is_lock", "is_lock", defArgs (top 17), defBody (top 17), defScope (top 17), [], []⟩
def m9 : DM := ⟨d9, ["tree"], ["tree"], false, true, false, []⟩
theorem ok9 : m9.Ok := ⟨fun _ K fd F => F.bindsN fun _ _ _ _ _ _ us hl => match us, hl with | [_], _ => rfl, fun n ks b e => (by cases e), by decide +kernel⟩
def d10 : He.DefD := ⟨("is_locks", none), "is_locks", "is_locks", defArgs (top 18), defBody (top 18), defScope (top 18), [], []⟩
def m10 : DM := ⟨d10, ["tree"], ["tree"], false, true, false, []⟩
theorem ok10 : m10.Ok := ⟨fun _ K fd F => F.bindsN fun _ _ _ _ _ _ us hl => match us, hl with | [_], _ => rfl, fun n ks b e => (by cases e), by decide +kernel⟩
def d11 : He.DefD := ⟨("is_state", none), "is_state", "is_state", defArgs (top 19), defBody (top 19), defScope (top 19), [], []⟩
def m11 : DM := ⟨d11, ["tree"], ["tree"], false, true, false, []⟩
theorem ok11 : m11.Ok := ⟨fun _ K fd F => F.bindsN fun _ _ _ _ _ _ us hl => match us, hl with | [_], _ => rfl, fun n ks b e => (by cases e), by decide +kernel⟩
def d12 : He.DefD := ⟨("is_opening", none), "is_opening", "is_opening", defArgs (top 20), defBody (top 20), defScope (top 20), [], []⟩
def m12 : DM := ⟨d12, ["tree"], ["tree"], false, true, false, []⟩
theorem ok12 : m12.Ok := ⟨fun _ K fd F => F.bindsN fun _ _ _ _ _ _ us hl => match us, hl with | [_], _ => rfl, fun n ks b e => (by cases e), by decide +kernel⟩
def d13 : He.DefD := ⟨("is_splice", none), "is_splice", "is_splice", defArgs (top 21), defBody (top 21), defScope (top 21), [], []⟩
def m13 : DM := ⟨d13, ["tree"], ["tree"], false, true, false, []⟩
theorem ok13 : m13.Ok := ⟨fun _ K fd F => F.bindsN fun _ _ _ _ _ _ us hl => match us, hl with | [_], _ => rfl, fun n ks b e => (by cases e), by decide +kernel⟩
def d14 : He.DefD := ⟨("is_act", none), "is_act", "is_act", defArgs (top 22), defBody (top 22), defScope (top 22), [], []⟩
def m14 : DM := ⟨d14, ["tree"], ["tree"], false, true, false, []⟩
theorem ok14 : m14.Ok := ⟨fun _ K fd F => F.bindsN fun _ _ _ _ _ _ us hl => match us, hl with | [_], _ => rfl, fun n ks b e => (by cases e), by decide +kernel⟩
def d15 : He.DefD := ⟨("is_hands", none), "is_hands", "is_hands", defArgs (top 23), defBody (top 23), defScope (top 23), [], []⟩
def m15 : DM := ⟨d15, ["tree"], ["tree"], false, true, false, []⟩
theorem ok15 : m15.Ok := ⟨fun _ K fd F => F.bindsN fun _ _ _ _ _ _ us hl => match us, hl with | [_], _ => rfl, fun n ks b e => (by cases e), by decide +kernel⟩
def d16 : He.DefD := ⟨("is_thing", none), "is_thing", "is_thing", defArgs (top 24), defBody (top 24), defScope (top 24), [], []⟩
def m16 : DM := ⟨d16, ["tree"], ["tree"], false, true, false, []⟩
theorem ok16 : m16.Ok := ⟨fun _ K fd F => F.bindsN fun _ _ _ _ _ _ us hl => match us, hl with | [_], _ => rfl, fun n ks b e => (by cases e), by decide +kernel⟩
def d17 : He.DefD := ⟨("is_move", none), "is_move", "is_move", defArgs (top 25), defBody (top 25), defScope (top 25), [], []⟩
def m17 : DM := ⟨d17, ["tree"], ["tree"], false, true, false, []⟩
theorem ok17 : m17.Ok := ⟨fun _ K fd F => F.bindsN fun _ _ _ _ _ _ us hl => match us, hl with | [_], _ => rfl, fun n ks b e => (by cases e), by decide +kernel⟩
def d18 : He.DefD := ⟨("is_step", none), "is_step", "is_step", defArgs (top 26), defBody (top 26), defScope (top 26), [], []⟩
def m18 : DM := ⟨d18, ["tree"], ["tree"], false, true, false, []⟩
theorem ok18 : m18.Ok := ⟨fun _ K fd F => F.bindsN fun _ _ _ _ _ _ us hl => match us, hl with | [_], _ => rfl, fun n ks b e => (by cases e), by decide +kernel⟩
def d19 : He.DefD := ⟨("is_word", none), "is_word", "is_word", defArgs (top 27), defBody (top 27), defScope (top 27), [], []⟩
def m19 : DM := ⟨d19, ["tree"], ["tree"], false, true, false, []⟩
theorem ok19 : m19.Ok := ⟨fun _ K fd F => F.bindsN fun _ _ _ _ _ _ us hl => match us, hl with | [_], _ => rfl, fun n ks b e => (by cases e), by decide +kernel⟩
def d20 : He.DefD := ⟨("is_wish", none), "is_wish", "is_wish", defArgs (top 28), defBody (top 28), defScope (top 28), [], []⟩
def m20 : DM := ⟨d20, ["tree"], ["tree"], false, true, false, []⟩
theorem ok20 : m20.Ok := ⟨fun _ K fd F => F.bindsN fun _ _ _ _ _ _ us hl => match us, hl with | [_], _ => rfl, fun n ks b e => (by cases e), by decide +kernel⟩
def d21 : He.DefD := ⟨("is_deed", none), "is_deed", "is_deed", defArgs (top 29), defBody (top 29), defScope (top 29), [], []⟩
def m21 : DM := ⟨d21, ["tree"], ["tree"], false, true, false, []⟩
theorem ok21 : m21.Ok := ⟨fun _ K fd F => F.bindsN fun _ _ _ _ _ _ us hl => match us, hl with | [_], _ => rfl, fun n ks b e => (by cases e), by decide +kernel⟩
def d22 : He.DefD := ⟨("_law_number", none), "_law_number", "_law_number", defArgs (top 36), defBody (top 36), defScope (top 36), [], []⟩
def m22 : DM := ⟨d22, ["_law_script", "_law_k", "_law_cell", "_law_first", "_law_second"], ["_law_script", "_law_k"], false, true, false, []⟩
theorem ok22 : m22.Ok := ⟨fun _ K fd F => F.bindsN fun _ _ _ _ _ _ us hl => match us, hl with | [_, _], _ => rfl, fun n ks b e => (by cases e), by decide +kernel⟩
def d23 : He.DefD := ⟨("_law_says", none), "_law_says", "_law_says", defArgs (top 37), defBody (top 37), defScope (top 37), [], []⟩
def m23 : DM := ⟨d23, ["_law_actual", "_law_due"], ["_law_actual", "_law_due"], false, true, false, []⟩
theorem ok23 : m23.Ok := ⟨fun _ K fd F => F.bindsN fun _ _ _ _ _ _ us hl => match us, hl with | [_, _], _ => rfl, fun n ks b e => (by cases e), by decide +kernel⟩
def d24 : He.DefD := ⟨("_law_items", none), "_law_items", "_law_items", defArgs (top 38), defBody (top 38), defScope (top 38), [], []⟩
def m24 : DM := ⟨d24, ["_law_kind", "_law_table"], ["_law_kind"], false, true, true, []⟩
theorem ok24 : m24.Ok := ⟨fun _ K fd F => F.bindsN fun _ _ _ _ _ _ us hl => match us, hl with | [_], _ => rfl, fun n ks b e => (by cases e), by decide +kernel⟩
def d25 : He.DefD := ⟨("_law_rows", none), "_law_rows", "_law_rows", defArgs (top 39), defBody (top 39), defScope (top 39), [], []⟩
def m25 : DM := ⟨d25, ["_law_kind", "_law_table"], ["_law_kind"], false, true, true, []⟩
theorem ok25 : m25.Ok := ⟨fun _ K fd F => F.bindsN fun _ _ _ _ _ _ us hl => match us, hl with | [_], _ => rfl, fun n ks b e => (by cases e), by decide +kernel⟩
def d26 : He.DefD := ⟨("_law_most", none), "_law_most", "_law_most", defArgs (top 40), defBody (top 40), defScope (top 40), [], []⟩
def m26 : DM := ⟨d26, ["_law_kind", "_law_table"], ["_law_kind"], false, true, true, []⟩
theorem ok26 : m26.Ok := ⟨fun _ K fd F => F.bindsN fun _ _ _ _ _ _ us hl => match us, hl with | [_], _ => rfl, fun n ks b e => (by cases e), by decide +kernel⟩
def d27 : He.DefD := ⟨("_law_row_of", none), "_law_row_of", "_law_row_of", defArgs (top 41), defBody (top 41), defScope (top 41), [], []⟩
def m27 : DM := ⟨d27, ["_law_kind"], ["_law_kind"], false, true, true, []⟩
theorem ok27 : m27.Ok := ⟨fun _ K fd F => F.bindsN fun _ _ _ _ _ _ us hl => match us, hl with | [_], _ => rfl, fun n ks b e => (by cases e), by decide +kernel⟩
def d28 : He.DefD := ⟨("_law_make", none), "_law_make", "_law_make", defArgs (top 42), defBody (top 42), defScope (top 42), [], []⟩
def m28 : DM := ⟨d28, ["_law_kind", "_law_number_here", "_law_rest", "_law_items_here", "_law_rows_here", "_law_many", "_law_name", "_law_k"], ["_law_kind", "_law_number_here"], false, true, false, []⟩
theorem ok28 : m28.Ok := ⟨fun _ K fd F => F.bindsN fun _ _ _ _ _ _ us hl => match us, hl with | [_, _], _ => rfl, fun n ks b e => (by cases e), by decide +kernel⟩
def d29 : He.DefD := ⟨("_law_spoilt_atom", none), "_law_spoilt_atom", "_law_spoilt_atom", defArgs (top 43), defBody (top 43), defScope (top 43), [], []⟩
def m29 : DM := ⟨d29, ["_law_kind", "_law_number_here", "_law_most_here", "_law_least"], ["_law_kind", "_law_number_here"], false, true, false, []⟩
theorem ok29 : m29.Ok := ⟨fun _ K fd F => F.bindsN fun _ _ _ _ _ _ us hl => match us, hl with | [_, _], _ => rfl, fun n ks b e => (by cases e), by decide +kernel⟩
def d30 : He.DefD := ⟨("_law_spoilt", none), "_law_spoilt", "_law_spoilt", defArgs (top 44), defBody (top 44), defScope (top 44), [], []⟩
def m30 : DM := ⟨d30, ["_law_kind", "_law_tree", "_law_number_here", "_law_rest", "_law_items_here", "_law_at", "_law_rows_here", "_law_many", "_law_row", "_law_k"], ["_law_kind", "_law_tree", "_law_number_here"], false, true, false, []⟩
theorem ok30 : m30.Ok := ⟨fun _ K fd F => F.bindsN fun _ _ _ _ _ _ us hl => match us, hl with | [_, _, _], _ => rfl, fun n ks b e => (by cases e), by decide +kernel⟩
def d31 : He.DefD := ⟨("_law_told", none), "_law_told", "_law_told", defArgs (top 45), defBody (top 45), defScope (top 45), [], []⟩
def m31 : DM := ⟨d31, ["_law_kind", "_law_tree"], ["_law_kind", "_law_tree"], false, true, false, []⟩
theorem ok31 : m31.Ok := ⟨fun _ K fd F => F.bindsN fun _ _ _ _ _ _ us hl => match us, hl with | [_, _], _ => rfl, fun n ks b e => (by cases e), by decide +kernel⟩
def d32 : He.DefD := ⟨("law", none), "law", "law", defArgs (top 46), defBody (top 46), defScope (top 46), [], []⟩
def m32 : DM := ⟨d32, ["_law_script", "_law_kinds", "_law_k", "_law_number_here", "_law_tree", "_law_j", "_law_other"], ["_law_script"], false, true, false, []⟩
theorem ok32 : m32.Ok := ⟨fun _ K fd F => F.bindsN fun _ _ _ _ _ _ us hl => match us, hl with | [_], _ => rfl, fun n ks b e => (by cases e), by decide +kernel⟩
def dm : List DM := [m0, m1, m2, m3, m4, m5, m6, m7, m8, m9, m10, m11, m12, m13, m14, m15, m16, m17, m18, m19, m20, m21, m22, m23, m24, m25, m26, m27, m28, m29, m30, m31, m32]
def fn : List He.DefD := [d0, d1, d2, d3, d4, d5, d6, d7, d8, d9, d10, d11, d12, d13, d14, d15, d16, d17, d18, d19, d20, d21, d22, d23, d24, d25, d26, d27, d28, d29, d30, d31, d32]
def rowsACTS : List (List Nat × List Nat) := [([112, 97, 121], [1, 2]), ([111, 112, 101, 110], [12]), ([112, 117, 98, 108, 105, 115, 104], [11]), ([115, 101, 116, 116, 108, 101], [1]), ([115, 112, 108, 105, 99, 101], [13]), ([114, 101, 118, 101, 97, 108], [1])]
def rowsMOVES : List (List Nat × List Nat) := [([108, 111, 99, 107], [1, 2, 3]), ([112, 97, 105, 100], [1, 1]), ([100, 114, 111, 112, 112, 101, 100], [1]), ([98, 97, 99, 107], [1]), ([116, 114, 97, 110, 115, 102, 101, 114], [2]), ([102, 105, 110, 105, 115, 104], [])]
def rowsWORDS : List (List Nat × List Nat) := [([111, 112, 101, 110, 105, 110, 103], [12]), ([115, 116, 101, 112], [1, 1, 18]), ([97, 110, 115, 119, 101, 114], [1, 1]), ([115, 112, 108, 105, 99, 101], [13]), ([116, 117, 114, 110], [1])]
def rowsWISHES : List (List Nat × List Nat) := [([111, 112, 101, 110], [12]), ([112, 97, 121], [1, 1, 2, 3]), ([103, 105, 118, 101], [1, 1, 1, 2, 3]), ([114, 101, 102, 117, 115, 101], [1, 1]), ([116, 114, 97, 110, 115, 102, 101, 114], [1, 2]), ([102, 105, 110, 105, 115, 104], [1]), ([115, 112, 108, 105, 99, 101], [13]), ([108, 101, 97, 118, 101], [1]), ([105, 110, 118, 111, 105, 99, 101], [1, 2])]
def rowsDEEDS : List (List Nat × List Nat) := [([111, 102, 102, 101, 114], [16]), ([115, 97, 121], [1, 1, 19]), ([100, 101, 108, 105, 118, 101, 114], [1]), ([108, 111, 115, 101], [1]), ([99, 111, 112, 121], [1]), ([98, 108, 111, 99, 107], []), ([116, 101, 108, 108], [1]), ([119, 105, 115, 104], [1, 20]), ([115, 116, 111, 112], [1])]
def gl : List (PySem.Str × GV) := [(("is_whole", .fn 0) : PySem.Str × GV), (("is_number", .fn 1) : PySem.Str × GV), (("is_amount", .fn 2) : PySem.Str × GV), (("is_height", .fn 3) : PySem.Str × GV), (("is_free", .fn 4) : PySem.Str × GV), (("is_flag", .fn 5) : PySem.Str × GV), (("is_row", .fn 6) : PySem.Str × GV), (("is_list", .fn 7) : PySem.Str × GV), (("is_named", .fn 8) : PySem.Str × GV), (("is_lock", .fn 9) : PySem.Str × GV), (("is_locks", .fn 10) : PySem.Str × GV), (("is_state", .fn 11) : PySem.Str × GV), (("is_opening", .fn 12) : PySem.Str × GV), (("is_splice", .fn 13) : PySem.Str × GV), (("is_act", .fn 14) : PySem.Str × GV), (("is_hands", .fn 15) : PySem.Str × GV), (("is_thing", .fn 16) : PySem.Str × GV), (("is_move", .fn 17) : PySem.Str × GV), (("is_step", .fn 18) : PySem.Str × GV), (("is_word", .fn 19) : PySem.Str × GV), (("is_wish", .fn 20) : PySem.Str × GV), (("is_deed", .fn 21) : PySem.Str × GV), (("_law_number", .fn 22) : PySem.Str × GV), (("_law_says", .fn 23) : PySem.Str × GV), (("_law_items", .fn 24) : PySem.Str × GV), (("_law_rows", .fn 25) : PySem.Str × GV), (("_law_most", .fn 26) : PySem.Str × GV), (("_law_row_of", .fn 27) : PySem.Str × GV), (("_law_make", .fn 28) : PySem.Str × GV), (("_law_spoilt_atom", .fn 29) : PySem.Str × GV), (("_law_spoilt", .fn 30) : PySem.Str × GV), (("_law_told", .fn 31) : PySem.Str × GV), (("law", .fn 32) : PySem.Str × GV), (("MOST_NUMBER", .cst (.int 4294967295)) : PySem.Str × GV), (("MOST_AMOUNT", .cst (.int 1000000000000000)) : PySem.Str × GV), (("MOST_HEIGHT", .cst (.int 1000000000000)) : PySem.Str × GV), (("MOST_FREE", .cst (.int 3000000000000000)) : PySem.Str × GV), (("MOST_HANDS", .cst (.int 4)) : PySem.Str × GV), (("MOST_LOCKS", .cst (.int 30)) : PySem.Str × GV), (("MOST_MOVES", .cst (.int 16)) : PySem.Str × GV), (("ACTS", .tab rowsACTS) : PySem.Str × GV), (("MOVES", .tab rowsMOVES) : PySem.Str × GV), (("WORDS", .tab rowsWORDS) : PySem.Str × GV), (("WISHES", .tab rowsWISHES) : PySem.Str × GV), (("DEEDS", .tab rowsDEEDS) : PySem.Str × GV)]
def fa : List He.Fa := [(.glo "is_whole" : He.Fa), (.glo "is_number" : He.Fa), (.glo "is_amount" : He.Fa), (.glo "is_height" : He.Fa), (.glo "is_free" : He.Fa), (.glo "is_flag" : He.Fa), (.glo "is_row" : He.Fa), (.glo "is_list" : He.Fa), (.glo "is_named" : He.Fa), (.glo "is_lock" : He.Fa), (.glo "is_locks" : He.Fa), (.glo "is_state" : He.Fa), (.glo "is_opening" : He.Fa), (.glo "is_splice" : He.Fa), (.glo "is_act" : He.Fa), (.glo "is_hands" : He.Fa), (.glo "is_thing" : He.Fa), (.glo "is_move" : He.Fa), (.glo "is_step" : He.Fa), (.glo "is_word" : He.Fa), (.glo "is_wish" : He.Fa), (.glo "is_deed" : He.Fa), (.glo "_law_number" : He.Fa), (.glo "_law_says" : He.Fa), (.glo "_law_items" : He.Fa), (.glo "_law_rows" : He.Fa), (.glo "_law_most" : He.Fa), (.glo "_law_row_of" : He.Fa), (.glo "_law_make" : He.Fa), (.glo "_law_spoilt_atom" : He.Fa), (.glo "_law_spoilt" : He.Fa), (.glo "_law_told" : He.Fa), (.glo "law" : He.Fa), (.int "MOST_NUMBER" 4294967295 : He.Fa), (.int "MOST_AMOUNT" 1000000000000000 : He.Fa), (.int "MOST_HEIGHT" 1000000000000 : He.Fa), (.int "MOST_FREE" 3000000000000000 : He.Fa), (.int "MOST_HANDS" 4 : He.Fa), (.int "MOST_LOCKS" 30 : He.Fa), (.int "MOST_MOVES" 16 : He.Fa), (.glo "ACTS" : He.Fa), (.glo "MOVES" : He.Fa), (.glo "WORDS" : He.Fa), (.glo "WISHES" : He.Fa), (.glo "DEEDS" : He.Fa), (.free "len" : He.Fa), (.free "int" : He.Fa), (.free "str" : He.Fa), (.free "tuple" : He.Fa), (.free "isinstance" : He.Fa), (.free "range" : He.Fa), (.free "bool" : He.Fa), (.free "zip" : He.Fa)]
def fm : List Fm := [.tab "ACTS" rowsACTS (dm.map (·.dd.at_)), .tab "MOVES" rowsMOVES (dm.map (·.dd.at_)), .tab "WORDS" rowsWORDS (dm.map (·.dd.at_)), .tab "WISHES" rowsWISHES (dm.map (·.dd.at_)), .tab "DEEDS" rowsDEEDS (dm.map (·.dd.at_))]
def ts : List He.Tab := [((fun K => He.ga K "ACTS"), ["pay", "open", "publish", "settle", "splice", "reveal"]), ((fun K => He.ga K "MOVES"), ["lock", "paid", "dropped", "back", "transfer", "finish"]), ((fun K => He.ga K "WORDS"), ["opening", "step", "answer", "splice", "turn"]), ((fun K => He.ga K "WISHES"), ["open", "pay", "give", "refuse", "transfer", "finish", "splice", "leave", "invoice"]), ((fun K => He.ga K "DEEDS"), ["offer", "say", "deliver", "lose", "copy", "block", "tell", "wish", "stop"])]
def blt : List PySem.Str := ["len", "int", "str", "tuple", "isinstance", "range", "bool", "zip"]
def exnT : List (Nat × Bool) := []
def subT : List ((Nat × Nat) × Bool) := []
def tx : TX := ⟨dm, gl, [], blt, [], fun _ => none, fun _ => false, fun _ _ => none, fun _ _ => none, fun _ _ => false, fun a c => subT.lookup (a, c), fun c => exnT.lookup c, false, fun k => (dm[k]?).any (·.plain)⟩
theorem txok {K : PySem.W.Frag} {w : World} {h : PySem.Heap} {mg : PySem.Str → Option Value} (X : K.In h) (G : h.Ns mainGlobals mg) (c : SaysM fa fn ts fm w K) : TxOk tx K mg w :=
  have ex : ∀ k b, exnT.lookup k = some b → ExP K (tx.L K) k b := fun k b e => AllE.at (P := ExP K (tx.L K)) (l := exnT) trivial e
  { lf := ⟨(by show ∀ i j, nmOf tx.fld i = nmOf tx.fld j → i = j; exact nmOf_inj (by decide +kernel) (by decide +kernel)), fun _ e => (by cases e), fun _ _ e => (by cases e), fun _ _ _ e => (by cases e), fun _ _ _ e => (by cases e), fun _ _ e => (by cases e),
      fun k e => ex k false e, fun k e => ex k true e, fun a b d e => AllS.at (P := fun a c b => PySem.W.exmOne K (.ref ((tx.L K).ca a)) (.ref ((tx.L K).ca c)) = some b) (l := subT) trivial e, fun z k b e => (by cases z), fun z a b d e => (by cases z)⟩
    gl := ⟨He.glo_ok X G (c.d.fact 0 rfl), He.glo_ok X G (c.d.fact 1 rfl), He.glo_ok X G (c.d.fact 2 rfl), He.glo_ok X G (c.d.fact 3 rfl), He.glo_ok X G (c.d.fact 4 rfl), He.glo_ok X G (c.d.fact 5 rfl), He.glo_ok X G (c.d.fact 6 rfl), He.glo_ok X G (c.d.fact 7 rfl), He.glo_ok X G (c.d.fact 8 rfl), He.glo_ok X G (c.d.fact 9 rfl), He.glo_ok X G (c.d.fact 10 rfl), He.glo_ok X G (c.d.fact 11 rfl), He.glo_ok X G (c.d.fact 12 rfl), He.glo_ok X G (c.d.fact 13 rfl), He.glo_ok X G (c.d.fact 14 rfl), He.glo_ok X G (c.d.fact 15 rfl), He.glo_ok X G (c.d.fact 16 rfl), He.glo_ok X G (c.d.fact 17 rfl), He.glo_ok X G (c.d.fact 18 rfl), He.glo_ok X G (c.d.fact 19 rfl), He.glo_ok X G (c.d.fact 20 rfl), He.glo_ok X G (c.d.fact 21 rfl), He.glo_ok X G (c.d.fact 22 rfl), He.glo_ok X G (c.d.fact 23 rfl), He.glo_ok X G (c.d.fact 24 rfl), He.glo_ok X G (c.d.fact 25 rfl), He.glo_ok X G (c.d.fact 26 rfl), He.glo_ok X G (c.d.fact 27 rfl), He.glo_ok X G (c.d.fact 28 rfl), He.glo_ok X G (c.d.fact 29 rfl), He.glo_ok X G (c.d.fact 30 rfl), He.glo_ok X G (c.d.fact 31 rfl), He.glo_ok X G (c.d.fact 32 rfl), (let ⟨t, e⟩ := He.int_ok X G (c.d.fact 33 rfl); ⟨_, e, fun pv => cst_int rfl⟩), (let ⟨t, e⟩ := He.int_ok X G (c.d.fact 34 rfl); ⟨_, e, fun pv => cst_int rfl⟩), (let ⟨t, e⟩ := He.int_ok X G (c.d.fact 35 rfl); ⟨_, e, fun pv => cst_int rfl⟩), (let ⟨t, e⟩ := He.int_ok X G (c.d.fact 36 rfl); ⟨_, e, fun pv => cst_int rfl⟩), (let ⟨t, e⟩ := He.int_ok X G (c.d.fact 37 rfl); ⟨_, e, fun pv => cst_int rfl⟩), (let ⟨t, e⟩ := He.int_ok X G (c.d.fact 38 rfl); ⟨_, e, fun pv => cst_int rfl⟩), (let ⟨t, e⟩ := He.int_ok X G (c.d.fact 39 rfl); ⟨_, e, fun pv => cst_int rfl⟩), ⟨_, He.glo_ok X G (c.d.fact 40 rfl), (by rw [fa0_tx]; exact c.tab 0 0 rfl rfl rfl)⟩, ⟨_, He.glo_ok X G (c.d.fact 41 rfl), (by rw [fa0_tx]; exact c.tab 1 1 rfl rfl rfl)⟩, ⟨_, He.glo_ok X G (c.d.fact 42 rfl), (by rw [fa0_tx]; exact c.tab 2 2 rfl rfl rfl)⟩, ⟨_, He.glo_ok X G (c.d.fact 43 rfl), (by rw [fa0_tx]; exact c.tab 3 3 rfl rfl rfl)⟩, ⟨_, He.glo_ok X G (c.d.fact 44 rfl), (by rw [fa0_tx]; exact c.tab 4 4 rfl rfl rfl)⟩, trivial⟩
    blt := ⟨He.free_ok X G (c.d.fact 45 rfl), He.free_ok X G (c.d.fact 46 rfl), He.free_ok X G (c.d.fact 47 rfl), He.free_ok X G (c.d.fact 48 rfl), He.free_ok X G (c.d.fact 49 rfl), He.free_ok X G (c.d.fact 50 rfl), He.free_ok X G (c.d.fact 51 rfl), He.free_ok X G (c.d.fact 52 rfl), trivial⟩
    dm := ⟨ok0, ok1, ok2, ok3, ok4, ok5, ok6, ok7, ok8, ok9, ok10, ok11, ok12, ok13, ok14, ok15, ok16, ok17, ok18, ok19, ok20, ok21, ok22, ok23, ok24, ok25, ok26, ok27, ok28, ok29, ok30, ok31, ok32, trivial⟩
    fd := fun k d e => c.d.def_ k (d := d.dd) (by
      have e : dm[k]? = some d := e
      have l : k < dm.length := (List.getElem?_eq_some_iff.mp e).1
      show (dm.map (·.dd) ++ [])[k]? = _
      rw [List.getElem?_append_left (by rw [List.length_map]; exact l), List.getElem?_map, e]; rfl)
    val := fun _ e => e
    meth := fun _ _ _ e => (by cases e)
    prop := fun _ _ _ e => (by cases e) }
abbrev hk : PySem.W.Hook := hookM 4 fa fn ts fm
def ob (s : PySem.W.SharedT) : AlM := obsM 4 fa fn ts fm (HandSHeadRun.getT s)
theorem ob_eq (s : PySem.W.SharedT) : ob s = hk.obs s.abs := obsM_eq (HandSHeadRun.getT_eq s)
end Tx
namespace Fin
open PySem PySem.Spec PyProof.Rows L2 MP Tx
theorem e0 : tx.fd m0 = ⟨3, 3, K72.b0⟩ := by kernel_rfl
theorem e1 : tx.fd m1 = ⟨1, 1, K72.b1⟩ := by kernel_rfl
theorem e2 : tx.fd m2 = ⟨1, 1, K72.b2⟩ := by kernel_rfl
theorem e3 : tx.fd m3 = ⟨1, 1, K72.b3⟩ := by kernel_rfl
theorem e4 : tx.fd m4 = ⟨1, 1, K72.b4⟩ := by kernel_rfl
theorem e5 : tx.fd m5 = ⟨1, 1, K72.b5⟩ := by kernel_rfl
theorem e6 : tx.fd m6 = ⟨2, 4, K72.b6⟩ := by kernel_rfl
theorem e7 : tx.fd m7 = ⟨3, 4, K72.b7⟩ := by kernel_rfl
theorem e8 : tx.fd m8 = ⟨1, 1, K72.b8⟩ := by kernel_rfl
theorem e9 : tx.fd m9 = ⟨1, 1, K72.b9⟩ := by kernel_rfl
theorem e10 : tx.fd m10 = ⟨1, 1, K72.b10⟩ := by kernel_rfl
theorem e11 : tx.fd m11 = ⟨1, 1, K72.b11⟩ := by kernel_rfl
theorem e12 : tx.fd m12 = ⟨1, 1, K72.b12⟩ := by kernel_rfl
theorem e13 : tx.fd m13 = ⟨1, 1, K72.b13⟩ := by kernel_rfl
theorem e14 : tx.fd m14 = ⟨1, 1, K72.b14⟩ := by kernel_rfl
theorem e15 : tx.fd m15 = ⟨1, 1, K72.b15⟩ := by kernel_rfl
theorem e16 : tx.fd m16 = ⟨1, 1, K72.b16⟩ := by kernel_rfl
theorem e17 : tx.fd m17 = ⟨1, 1, K72.b17⟩ := by kernel_rfl
theorem e18 : tx.fd m18 = ⟨1, 1, K72.b18⟩ := by kernel_rfl
theorem e19 : tx.fd m19 = ⟨1, 1, K72.b19⟩ := by kernel_rfl
theorem e20 : tx.fd m20 = ⟨1, 1, K72.b20⟩ := by kernel_rfl
theorem e21 : tx.fd m21 = ⟨1, 1, K72.b21⟩ := by kernel_rfl
theorem e22 : tx.fd m22 = ⟨2, 5, K72.b22⟩ := by kernel_rfl
theorem e23 : tx.fd m23 = ⟨2, 2, K72.b23⟩ := by kernel_rfl
theorem e24 : tx.fd m24 = ⟨1, 2, K72.b24⟩ := by kernel_rfl
theorem e25 : tx.fd m25 = ⟨1, 2, K72.b25⟩ := by kernel_rfl
theorem e26 : tx.fd m26 = ⟨1, 2, K72.b26⟩ := by kernel_rfl
theorem e27 : tx.fd m27 = ⟨1, 1, K72.b27⟩ := by kernel_rfl
theorem e28 : tx.fd m28 = ⟨2, 8, K72.b28⟩ := by kernel_rfl
theorem e29 : tx.fd m29 = ⟨2, 4, K72.b29⟩ := by kernel_rfl
theorem e30 : tx.fd m30 = ⟨3, 10, K72.b30⟩ := by kernel_rfl
theorem e31 : tx.fd m31 = ⟨2, 2, K72.b31⟩ := by kernel_rfl
theorem e32 : tx.fd m32 = ⟨1, 7, K72.b32⟩ := by kernel_rfl
theorem fzk (k : Nat) : tx.T.fz k = (dm[k]?).any (·.fz) := rfl
theorem fz1 : ∀ k, 24 ≤ k → k ≤ 27 → tx.T.fz k = true := fun k h1 h2 => by
  have : ∀ j, j < 4 → (dm[24 + j]?).any (·.fz) = true := by decide
  rw [fzk, show k = 24 + (k - 24) by omega]
  exact this (k - 24) (by omega)
theorem fz0 (k : Nat) (h : k < 24 ∨ 27 < k) : tx.T.fz k = false := by
  rw [fzk]
  by_cases h33 : k < 33
  · have : ∀ j, j < 33 → (j < 24 ∨ 27 < j) → (dm[j]?).any (·.fz) = false := by decide
    exact this k h33 h
  · have : dm[k]? = none := List.getElem?_eq_none (by show 33 ≤ k; omega)
    rw [this]
    rfl
theorem valk : ∀ k, k < 33 → tx.T.val k = true := fun k h => by
  have : ∀ j, j < 33 → (dm[j]?).any (·.plain) = true := by decide
  exact this k h
theorem tab : K72.Tab tx.T := ⟨congrArg some e0, congrArg some e1, congrArg some e2, congrArg some e3, congrArg some e4, congrArg some e5, congrArg some e6, congrArg some e7, congrArg some e8, congrArg some e9, congrArg some e10, congrArg some e11, congrArg some e12, congrArg some e13, congrArg some e14, congrArg some e15, congrArg some e16, congrArg some e17, congrArg some e18, congrArg some e19, congrArg some e20, congrArg some e21, congrArg some e22, congrArg some e23, congrArg some e24, congrArg some e25, congrArg some e26, congrArg some e27, congrArg some e28, congrArg some e29, congrArg some e30, congrArg some e31, congrArg some e32, fz0, fz1, valk⟩
theorem ends {w : World} {mg : PySem.Str → Option Value} {fad : Addr} {h : PySem.Heap} (G : h.Ns mainGlobals mg) (Y : ∃ K : PySem.W.Frag, K.In h ∧ SaysM fa fn ts fm w K) (hmg : mg ("law" : PySem.Str) = some (.ref fad)) :
    ∃ K : PySem.W.Frag, K.In h ∧ LamX.LawAtS PySem.Challenge.rw_turnpike_k72_shapes w K (L2.CX (PySem.Challenge.rw_turnpike_k72_shapes).prog w) 62 63 "_law_script" mg fad h := by
  obtain ⟨K, KX, c⟩ := Y
  have O : TxOk tx K mg w := txok KX G c
  obtain ⟨fd, F, _⟩ := tx_law (P := (PySem.Challenge.rw_turnpike_k72_shapes).prog) (w := w) (base := h) O 29 32 m32 rfl
  have e := hmg.symm.trans (He.glo_ok KX G (c.d.fact 32 (f := .glo "law") rfl))
  cases e
  refine ⟨K, KX, fd, [], spF (tx.L K) (callF tx.T 30) 32, fun p hp => (by cases hp), fun p hp => (by cases hp), fun p hp => (by cases hp), fun s u => ?_, fun H a ns hl _ _ hS => law_sp hS (K72.law tab 0 ns), fun base KB GB _ => ?_⟩
  · exact FunD.bindsA (ps := ["_law_script"]) F (fun _ _ _ _ _ _ us hl => match us, hl with | [_], _ => rfl) s [u] rfl
  · have O2 : TxOk tx K mg w := txok KB GB c
    obtain ⟨fd2, F2, H2⟩ := tx_law (P := (PySem.Challenge.rw_turnpike_k72_shapes).prog) (w := w) (base := base) O2 29 32 m32 rfl
    have efd : fd2 = fd := by
      obtain ⟨_, _, _, _, _, _, _, _, _, _, rfl, l1, _⟩ := F.ex
      obtain ⟨_, _, _, _, _, _, _, _, _, _, rfl, l2, _⟩ := F2.ex
      rw [l1] at l2
      cases l2
      rfl
    subst efd
    exact H2.mono (by decide)
end Fin
open PySem PySem.W PySem.Calls PyProof.Rows
theorem PySem.Challenge.cw_turnpike_k72_shapes_holds : PySem.Challenge.rw_turnpike_k72_shapes.Holds := by
  w_on; o_law
  o_head Tx.hk
  case hw => w_witness2
  case hc =>
    refine LamX.walk_ofTsE (l := PySem.Challenge.rw_turnpike_k72_shapes) (n := 63) (k := 62) (x := "_law_script") (CX := fun w => L2.CX (PySem.Challenge.rw_turnpike_k72_shapes).prog w) rfl (by decide) (by kernel_rfl) ⟨rfl, by decide, by decide⟩ ?F (fun w H s e s' ⟨_, _, _, _, _, _, _, _, _, _, _, _, z⟩ => z)
    intro w mg fad h Y G hmg0
    exact Fin.ends G Y hmg0

